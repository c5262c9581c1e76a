import Derived.Test.YtkpodipoegbclaaGreatDoorShelf
import Derived.Shelf.Sort.Plain
import Derived.Shelf.Slices.In.SortNone
namespace Go.Proofs
open Go.Shelf
def Tryz.lays189_ren : Go.Shelf.Ren := ⟨fun | 189 => 195 | 125 => 229 | 257 => 228 | 128 => 259 | 129 => 144 | 294 => 250 | 295 => 251 | 296 => 252 | 297 => 253 | 298 => 254 | 299 => 255 | 216 => 256 | 300 => 257 | 301 => 258 | 328 => 267 | 329 => 268 | 330 => 269 | 331 => 270 | 332 => 271 | 215 => 272 | 343 => 278 | n => n, fun | 28 => 48 | 3 => 3 | 46 => 261 | 0 => 0 | 51 => 295 | 53 => 101 | 4 => 4 | 183 => 321 | 182 => 320 | 131 => 61 | 5 => 5 | 9 => 9 | 218 => 333 | 222 => 183 | 228 => 345 | 229 => 346 | n => n, fun | n => n⟩
theorem Tryz.lays189 : Go.Proofs.Lays.n189 Tryz.prog Tryz.lays189_ren := {
  mixed := by kernel_rfl
  f125 := Tryz.func229.trans (congrArg some (by kernel_rfl))
  f128 := Tryz.func259.trans (congrArg some (by kernel_rfl))
  f129 := Tryz.func144.trans (congrArg some (by kernel_rfl))
  f189 := Tryz.func195.trans (congrArg some (by kernel_rfl))
  f215 := Tryz.func272.trans (congrArg some (by kernel_rfl))
  f216 := Tryz.func256.trans (congrArg some (by kernel_rfl))
  f257 := Tryz.func228.trans (congrArg some (by kernel_rfl))
  f294 := Tryz.func250.trans (congrArg some (by kernel_rfl))
  f295 := Tryz.func251.trans (congrArg some (by kernel_rfl))
  f296 := Tryz.func252.trans (congrArg some (by kernel_rfl))
  f297 := Tryz.func253.trans (congrArg some (by kernel_rfl))
  f298 := Tryz.func254.trans (congrArg some (by kernel_rfl))
  f299 := Tryz.func255.trans (congrArg some (by kernel_rfl))
  f300 := Tryz.func257.trans (congrArg some (by kernel_rfl))
  f301 := Tryz.func258.trans (congrArg some (by kernel_rfl))
  f328 := Tryz.func267.trans (congrArg some (by kernel_rfl))
  f329 := Tryz.func268.trans (congrArg some (by kernel_rfl))
  f330 := Tryz.func269.trans (congrArg some (by kernel_rfl))
  f331 := Tryz.func270.trans (congrArg some (by kernel_rfl))
  f332 := Tryz.func271.trans (congrArg some (by kernel_rfl))
  f343 := Tryz.func278.trans (congrArg some (by kernel_rfl))
  t0 := Tryz.underlying0
  a0 := Tryz.isAgg0
  z0 := Tryz.sizeOf0
  v0 := Tryz.zeroValue0
  t3 := Tryz.underlying3
  a3 := Tryz.isAgg3
  z3 := Tryz.sizeOf3
  v3 := Tryz.zeroValue3
  t4 := Tryz.underlying4
  a4 := Tryz.isAgg4
  z4 := Tryz.sizeOf4
  v4 := Tryz.zeroValue4
  t5 := Tryz.underlying5
  a5 := Tryz.isAgg5
  z5 := Tryz.sizeOf5
  v5 := Tryz.zeroValue5
  t9 := Tryz.underlying9
  a9 := Tryz.isAgg9
  z9 := Tryz.sizeOf9
  v9 := Tryz.zeroValue9
  t28 := Tryz.underlying48
  a28 := Tryz.isAgg48
  z28 := Tryz.sizeOf48
  v28 := Tryz.zeroValue48
  t46 := Tryz.underlying261
  a46 := Tryz.isAgg261
  z46 := Tryz.sizeOf261
  v46 := Tryz.zeroValue261
  t51 := Tryz.underlying295
  a51 := Tryz.isAgg295
  z51 := Tryz.sizeOf295
  v51 := Tryz.zeroValue295
  t53 := Tryz.underlying101
  a53 := Tryz.isAgg101
  z53 := Tryz.sizeOf101
  v53 := Tryz.zeroValue101
  t131 := Tryz.underlying61
  a131 := Tryz.isAgg61
  z131 := Tryz.sizeOf61
  v131 := Tryz.zeroValue61
  t182 := Tryz.underlying320
  a182 := Tryz.isAgg320
  z182 := Tryz.sizeOf320
  v182 := Tryz.zeroValue320
  t183 := Tryz.underlying321
  a183 := Tryz.isAgg321
  z183 := Tryz.sizeOf321
  v183 := Tryz.zeroValue321
  t218 := Tryz.underlying333
  a218 := Tryz.isAgg333
  z218 := Tryz.sizeOf333
  v218 := Tryz.zeroValue333
  t222 := Tryz.underlying183
  a222 := Tryz.isAgg183
  z222 := Tryz.sizeOf183
  v222 := Tryz.zeroValue183
  t228 := Tryz.underlying345
  a228 := Tryz.isAgg345
  z228 := Tryz.sizeOf345
  v228 := Tryz.zeroValue345
  t229 := Tryz.underlying346
  a229 := Tryz.isAgg346
  z229 := Tryz.sizeOf346
  v229 := Tryz.zeroValue346 }
open Go.Sort Go.RowKit in
theorem Tryz.slices_Sort_int (blk off cap : Nat) (zs : List Int) (w : World) (hH : Holds (Value.int .i64) w blk off zs.toArray) (hblk : blk < w.heap.size) (hsz : zs.length < 4611686018427387904) :
    Calls Tryz.prog 195 #[.slice (some ⟨blk, off, none⟩) zs.length cap] w fun e w' =>
      e = .returned (.tuple #[]) ∧ ∃ n os, w' = grow (putRow (Value.int .i64) (Sort.ahead w n) blk off (zs.mergeSort fun x y => decide (x ≤ y)).toArray) os := Any.slices_Sort_int Tryz.lays189 blk off cap zs w hH hblk hsz
open Go.RowKit Go.Sort in
theorem Tryz.slices_Sort_int_none (p : Option Addr) (cap : Nat) (w : World) :
    Calls Tryz.prog 195 #[.slice p 0 cap] w fun e w' => e = .returned (.tuple #[]) ∧ w' = w := Any.slices_Sort_int_none Tryz.lays189 p cap w
end Go.Proofs
