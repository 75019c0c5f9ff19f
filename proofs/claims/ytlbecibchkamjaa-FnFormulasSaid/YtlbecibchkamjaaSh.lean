/- The library's contracts for slices.Sort and slices.Compact of ints, at this program's own numbers: what the kit's laying command hands to Lean, as plain text; no condition beyond the contracts'. -/
import Derived.Test.YtlbecibchkamjaaProg
import Derived.Shelf.Sort.Plain
import Derived.Shelf.Slices.In.SortNone
import Derived.Shelf.Slices.CompactI
set_option linter.unusedVariables false
namespace Go.Proofs.YtlbecibchkamjaaSh
open Go.Shelf
def laysSort_ren : Go.Shelf.Ren := ⟨fun | 189 => 74 | 125 => 91 | 257 => 90 | 128 => 101 | 129 => 102 | 294 => 92 | 295 => 93 | 296 => 94 | 297 => 95 | 298 => 96 | 299 => 97 | 216 => 98 | 300 => 99 | 301 => 100 | 328 => 103 | 329 => 104 | 330 => 105 | 331 => 106 | 332 => 107 | 215 => 108 | 343 => 109 | n => n, fun | 28 => 23 | 3 => 3 | 46 => 57 | 0 => 0 | 51 => 77 | 53 => 53 | 4 => 4 | 183 => 87 | 182 => 86 | 131 => 92 | 5 => 5 | 9 => 9 | 218 => 94 | 222 => 98 | 228 => 101 | 229 => 102 | n => n, fun | n => n⟩
theorem laysSort : Go.Proofs.Lays.n189 Try.prog laysSort_ren := {
  mixed := by kernel_rfl,
  f125 := Try.func91.trans (congrArg some (by kernel_rfl)),
  f128 := Try.func101.trans (congrArg some (by kernel_rfl)),
  f129 := Try.func102.trans (congrArg some (by kernel_rfl)),
  f189 := Try.func74.trans (congrArg some (by kernel_rfl)),
  f215 := Try.func108.trans (congrArg some (by kernel_rfl)),
  f216 := Try.func98.trans (congrArg some (by kernel_rfl)),
  f257 := Try.func90.trans (congrArg some (by kernel_rfl)),
  f294 := Try.func92.trans (congrArg some (by kernel_rfl)),
  f295 := Try.func93.trans (congrArg some (by kernel_rfl)),
  f296 := Try.func94.trans (congrArg some (by kernel_rfl)),
  f297 := Try.func95.trans (congrArg some (by kernel_rfl)),
  f298 := Try.func96.trans (congrArg some (by kernel_rfl)),
  f299 := Try.func97.trans (congrArg some (by kernel_rfl)),
  f300 := Try.func99.trans (congrArg some (by kernel_rfl)),
  f301 := Try.func100.trans (congrArg some (by kernel_rfl)),
  f328 := Try.func103.trans (congrArg some (by kernel_rfl)),
  f329 := Try.func104.trans (congrArg some (by kernel_rfl)),
  f330 := Try.func105.trans (congrArg some (by kernel_rfl)),
  f331 := Try.func106.trans (congrArg some (by kernel_rfl)),
  f332 := Try.func107.trans (congrArg some (by kernel_rfl)),
  f343 := Try.func109.trans (congrArg some (by kernel_rfl)),
  t0 := Try.underlying0,
  a0 := Try.isAgg0,
  z0 := Try.sizeOf0,
  v0 := Try.zeroValue0,
  t3 := Try.underlying3,
  a3 := Try.isAgg3,
  z3 := Try.sizeOf3,
  v3 := Try.zeroValue3,
  t4 := Try.underlying4,
  a4 := Try.isAgg4,
  z4 := Try.sizeOf4,
  v4 := Try.zeroValue4,
  t5 := Try.underlying5,
  a5 := Try.isAgg5,
  z5 := Try.sizeOf5,
  v5 := Try.zeroValue5,
  t9 := Try.underlying9,
  a9 := Try.isAgg9,
  z9 := Try.sizeOf9,
  v9 := Try.zeroValue9,
  t28 := Try.underlying23,
  a28 := Try.isAgg23,
  z28 := Try.sizeOf23,
  v28 := Try.zeroValue23,
  t46 := Try.underlying57,
  a46 := Try.isAgg57,
  z46 := Try.sizeOf57,
  v46 := Try.zeroValue57,
  t51 := Try.underlying77,
  a51 := Try.isAgg77,
  z51 := Try.sizeOf77,
  v51 := Try.zeroValue77,
  t53 := Try.underlying53,
  a53 := Try.isAgg53,
  z53 := Try.sizeOf53,
  v53 := Try.zeroValue53,
  t131 := Try.underlying92,
  a131 := Try.isAgg92,
  z131 := Try.sizeOf92,
  v131 := Try.zeroValue92,
  t182 := Try.underlying86,
  a182 := Try.isAgg86,
  z182 := Try.sizeOf86,
  v182 := Try.zeroValue86,
  t183 := Try.underlying87,
  a183 := Try.isAgg87,
  z183 := Try.sizeOf87,
  v183 := Try.zeroValue87,
  t218 := Try.underlying94,
  a218 := Try.isAgg94,
  z218 := Try.sizeOf94,
  v218 := Try.zeroValue94,
  t222 := Try.underlying98,
  a222 := Try.isAgg98,
  z222 := Try.sizeOf98,
  v222 := Try.zeroValue98,
  t228 := Try.underlying101,
  a228 := Try.isAgg101,
  z228 := Try.sizeOf101,
  v228 := Try.zeroValue101,
  t229 := Try.underlying102,
  a229 := Try.isAgg102,
  z229 := Try.sizeOf102,
  v229 := Try.zeroValue102 }
def laysCompact_ren : Go.Shelf.Ren := ⟨fun | 20 => 75 | n => n, fun | 22 => 23 | 3 => 3 | 4 => 4 | 0 => 0 | n => n, fun | n => n⟩
theorem laysCompact : Go.Proofs.Lays2.n20 Try.prog laysCompact_ren := {
  mixed := by kernel_rfl,
  f20 := Try.func75.trans (congrArg some (by kernel_rfl)),
  t0 := Try.underlying0,
  a0 := Try.isAgg0,
  z0 := Try.sizeOf0,
  v0 := Try.zeroValue0,
  t3 := Try.underlying3,
  a3 := Try.isAgg3,
  z3 := Try.sizeOf3,
  v3 := Try.zeroValue3,
  t4 := Try.underlying4,
  a4 := Try.isAgg4,
  z4 := Try.sizeOf4,
  v4 := Try.zeroValue4,
  t22 := Try.underlying23,
  a22 := Try.isAgg23,
  z22 := Try.sizeOf23,
  v22 := Try.zeroValue23,
  i3 := by kernel_rfl }
theorem sort_calls (blk off cap : Nat) (zs : List Int) (w : World) (hH : Go.Sort.Holds (Value.int .i64) w blk off zs.toArray) (hblk : blk < w.heap.size) (hsz : zs.length < 4611686018427387904) :
    Calls Try.prog 74 #[.slice (some ⟨blk, off, none⟩) zs.length cap] w fun e w' =>
      e = .returned (.tuple #[]) ∧ ∃ n os, w' = Go.Sort.grow (Go.Sort.putRow (Value.int .i64) (Go.Sort.ahead w n) blk off (zs.mergeSort fun x y => decide (x ≤ y)).toArray) os :=
  Any.slices_Sort_int laysSort blk off cap zs w hH hblk hsz
theorem sort_none (p : Option Addr) (cap : Nat) (w : World) : Calls Try.prog 74 #[.slice p 0 cap] w fun e w' => e = .returned (.tuple #[]) ∧ w' = w :=
  Any.slices_Sort_int_none laysSort p cap w
theorem compact_calls (blk off cap : Nat) (zs : List Int) (w : World) (hH : Go.Sort.Holds (Value.int .i64) w blk off zs.toArray) (hsz : zs.length ≤ 9223372036854775807) (hcap : zs.length ≤ cap) :
    Calls Try.prog 75 #[.slice (some ⟨blk, off, none⟩) zs.length cap] w fun e w' => e = .returned (.slice (some ⟨blk, off, none⟩) (Go.Lib.compact zs).length cap) ∧ ∃ q, w' = Go.Sort.putRow (Value.int .i64) (Go.Sort.ahead w q) blk off (Go.Lib.compact zs ++ List.replicate (zs.length - (Go.Lib.compact zs).length) 0).toArray :=
  Any.slices_Compact_int laysCompact blk off cap zs w hH hsz hcap
theorem compact_none (p : Option Addr) (cap : Nat) (w : World) : Calls Try.prog 75 #[.slice p 0 cap] w fun e w' => e = .returned (.slice p 0 cap) ∧ w' = w :=
  Any.slices_Compact_int_empty laysCompact p cap w
end Go.Proofs.YtlbecibchkamjaaSh
