import Derived.Test.YtebocijmegkfgaaGreatDoorShelf
import Derived.Shelf.Sort.Plain
import Derived.Shelf.Slices.In.SortNone
namespace Go.Proofs
open Go.Shelf
def Tryz.lays189_ren : Go.Shelf.Ren := ⟨fun | 189 => 184 | 125 => 224 | 257 => 223 | 128 => 266 | 129 => 164 | 294 => 257 | 295 => 258 | 296 => 259 | 297 => 260 | 298 => 261 | 299 => 262 | 216 => 263 | 300 => 264 | 301 => 265 | 328 => 280 | 329 => 281 | 330 => 282 | 331 => 283 | 332 => 284 | 215 => 285 | 343 => 292 | n => n, fun | 28 => 56 | 3 => 3 | 46 => 260 | 0 => 0 | 51 => 301 | 53 => 134 | 4 => 4 | 183 => 316 | 182 => 315 | 131 => 129 | 5 => 5 | 9 => 9 | 218 => 334 | 222 => 338 | 228 => 346 | 229 => 347 | n => n, fun | n => n⟩
theorem Tryz.lays189 : Go.Proofs.Lays.n189 Tryz.prog Tryz.lays189_ren := {
  mixed := by kernel_rfl
  f125 := Tryz.func224.trans (congrArg some (by kernel_rfl))
  f128 := Tryz.func266.trans (congrArg some (by kernel_rfl))
  f129 := Tryz.func164.trans (congrArg some (by kernel_rfl))
  f189 := Tryz.func184.trans (congrArg some (by kernel_rfl))
  f215 := Tryz.func285.trans (congrArg some (by kernel_rfl))
  f216 := Tryz.func263.trans (congrArg some (by kernel_rfl))
  f257 := Tryz.func223.trans (congrArg some (by kernel_rfl))
  f294 := Tryz.func257.trans (congrArg some (by kernel_rfl))
  f295 := Tryz.func258.trans (congrArg some (by kernel_rfl))
  f296 := Tryz.func259.trans (congrArg some (by kernel_rfl))
  f297 := Tryz.func260.trans (congrArg some (by kernel_rfl))
  f298 := Tryz.func261.trans (congrArg some (by kernel_rfl))
  f299 := Tryz.func262.trans (congrArg some (by kernel_rfl))
  f300 := Tryz.func264.trans (congrArg some (by kernel_rfl))
  f301 := Tryz.func265.trans (congrArg some (by kernel_rfl))
  f328 := Tryz.func280.trans (congrArg some (by kernel_rfl))
  f329 := Tryz.func281.trans (congrArg some (by kernel_rfl))
  f330 := Tryz.func282.trans (congrArg some (by kernel_rfl))
  f331 := Tryz.func283.trans (congrArg some (by kernel_rfl))
  f332 := Tryz.func284.trans (congrArg some (by kernel_rfl))
  f343 := Tryz.func292.trans (congrArg some (by kernel_rfl))
  t0 := Tryz.underlying0
  a0 := Tryz.isAgg0
  z0 := Tryz.sizeOf0
  v0 := Tryz.zeroValue0
  t3 := Tryz.underlying3
  a3 := Tryz.isAgg3
  z3 := Tryz.sizeOf3
  v3 := Tryz.zeroValue3
  t4 := Tryz.underlying4
  a4 := Tryz.isAgg4
  z4 := Tryz.sizeOf4
  v4 := Tryz.zeroValue4
  t5 := Tryz.underlying5
  a5 := Tryz.isAgg5
  z5 := Tryz.sizeOf5
  v5 := Tryz.zeroValue5
  t9 := Tryz.underlying9
  a9 := Tryz.isAgg9
  z9 := Tryz.sizeOf9
  v9 := Tryz.zeroValue9
  t28 := Tryz.underlying56
  a28 := Tryz.isAgg56
  z28 := Tryz.sizeOf56
  v28 := Tryz.zeroValue56
  t46 := Tryz.underlying260
  a46 := Tryz.isAgg260
  z46 := Tryz.sizeOf260
  v46 := Tryz.zeroValue260
  t51 := Tryz.underlying301
  a51 := Tryz.isAgg301
  z51 := Tryz.sizeOf301
  v51 := Tryz.zeroValue301
  t53 := Tryz.underlying134
  a53 := Tryz.isAgg134
  z53 := Tryz.sizeOf134
  v53 := Tryz.zeroValue134
  t131 := Tryz.underlying129
  a131 := Tryz.isAgg129
  z131 := Tryz.sizeOf129
  v131 := Tryz.zeroValue129
  t182 := Tryz.underlying315
  a182 := Tryz.isAgg315
  z182 := Tryz.sizeOf315
  v182 := Tryz.zeroValue315
  t183 := Tryz.underlying316
  a183 := Tryz.isAgg316
  z183 := Tryz.sizeOf316
  v183 := Tryz.zeroValue316
  t218 := Tryz.underlying334
  a218 := Tryz.isAgg334
  z218 := Tryz.sizeOf334
  v218 := Tryz.zeroValue334
  t222 := Tryz.underlying338
  a222 := Tryz.isAgg338
  z222 := Tryz.sizeOf338
  v222 := Tryz.zeroValue338
  t228 := Tryz.underlying346
  a228 := Tryz.isAgg346
  z228 := Tryz.sizeOf346
  v228 := Tryz.zeroValue346
  t229 := Tryz.underlying347
  a229 := Tryz.isAgg347
  z229 := Tryz.sizeOf347
  v229 := Tryz.zeroValue347 }
open Go.Sort Go.RowKit in
theorem Tryz.slices_Sort_int (blk off cap : Nat) (zs : List Int) (w : World) (hH : Holds (Value.int .i64) w blk off zs.toArray) (hblk : blk < w.heap.size) (hsz : zs.length < 4611686018427387904) :
    Calls Tryz.prog 184 #[.slice (some ⟨blk, off, none⟩) zs.length cap] w fun e w' =>
      e = .returned (.tuple #[]) ∧ ∃ n os, w' = grow (putRow (Value.int .i64) (Sort.ahead w n) blk off (zs.mergeSort fun x y => decide (x ≤ y)).toArray) os := Any.slices_Sort_int Tryz.lays189 blk off cap zs w hH hblk hsz
open Go.RowKit Go.Sort in
theorem Tryz.slices_Sort_int_none (p : Option Addr) (cap : Nat) (w : World) :
    Calls Tryz.prog 184 #[.slice p 0 cap] w fun e w' => e = .returned (.tuple #[]) ∧ w' = w := Any.slices_Sort_int_none Tryz.lays189 p cap w
end Go.Proofs
