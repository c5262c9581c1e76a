import Derived.Test.YtigoiiekebccnaaGreatDoorShelf
import Derived.Shelf.Sort.Plain
import Derived.Shelf.Slices.In.SortNone
namespace Go.Proofs
open Go.Shelf
def Tryz.lays189_ren : Go.Shelf.Ren := ⟨fun | 189 => 245 | 125 => 292 | 257 => 291 | 128 => 332 | 129 => 167 | 294 => 323 | 295 => 324 | 296 => 325 | 297 => 326 | 298 => 327 | 299 => 328 | 216 => 329 | 300 => 330 | 301 => 331 | 328 => 349 | 329 => 350 | 330 => 351 | 331 => 352 | 332 => 353 | 215 => 354 | 343 => 363 | n => n, fun | 28 => 25 | 3 => 3 | 46 => 246 | 0 => 0 | 51 => 253 | 53 => 198 | 4 => 4 | 183 => 417 | 182 => 416 | 131 => 68 | 5 => 5 | 9 => 9 | 218 => 436 | 222 => 77 | 228 => 448 | 229 => 449 | n => n, fun | n => n⟩
theorem Tryz.lays189 : Go.Proofs.Lays.n189 Tryz.prog Tryz.lays189_ren := {
  mixed := by kernel_rfl
  f125 := Tryz.func292.trans (congrArg some (by kernel_rfl))
  f128 := Tryz.func332.trans (congrArg some (by kernel_rfl))
  f129 := Tryz.func167.trans (congrArg some (by kernel_rfl))
  f189 := Tryz.func245.trans (congrArg some (by kernel_rfl))
  f215 := Tryz.func354.trans (congrArg some (by kernel_rfl))
  f216 := Tryz.func329.trans (congrArg some (by kernel_rfl))
  f257 := Tryz.func291.trans (congrArg some (by kernel_rfl))
  f294 := Tryz.func323.trans (congrArg some (by kernel_rfl))
  f295 := Tryz.func324.trans (congrArg some (by kernel_rfl))
  f296 := Tryz.func325.trans (congrArg some (by kernel_rfl))
  f297 := Tryz.func326.trans (congrArg some (by kernel_rfl))
  f298 := Tryz.func327.trans (congrArg some (by kernel_rfl))
  f299 := Tryz.func328.trans (congrArg some (by kernel_rfl))
  f300 := Tryz.func330.trans (congrArg some (by kernel_rfl))
  f301 := Tryz.func331.trans (congrArg some (by kernel_rfl))
  f328 := Tryz.func349.trans (congrArg some (by kernel_rfl))
  f329 := Tryz.func350.trans (congrArg some (by kernel_rfl))
  f330 := Tryz.func351.trans (congrArg some (by kernel_rfl))
  f331 := Tryz.func352.trans (congrArg some (by kernel_rfl))
  f332 := Tryz.func353.trans (congrArg some (by kernel_rfl))
  f343 := Tryz.func363.trans (congrArg some (by kernel_rfl))
  t0 := Tryz.underlying0
  a0 := Tryz.isAgg0
  z0 := Tryz.sizeOf0
  v0 := Tryz.zeroValue0
  t3 := Tryz.underlying3
  a3 := Tryz.isAgg3
  z3 := Tryz.sizeOf3
  v3 := Tryz.zeroValue3
  t4 := Tryz.underlying4
  a4 := Tryz.isAgg4
  z4 := Tryz.sizeOf4
  v4 := Tryz.zeroValue4
  t5 := Tryz.underlying5
  a5 := Tryz.isAgg5
  z5 := Tryz.sizeOf5
  v5 := Tryz.zeroValue5
  t9 := Tryz.underlying9
  a9 := Tryz.isAgg9
  z9 := Tryz.sizeOf9
  v9 := Tryz.zeroValue9
  t28 := Tryz.underlying25
  a28 := Tryz.isAgg25
  z28 := Tryz.sizeOf25
  v28 := Tryz.zeroValue25
  t46 := Tryz.underlying246
  a46 := Tryz.isAgg246
  z46 := Tryz.sizeOf246
  v46 := Tryz.zeroValue246
  t51 := Tryz.underlying253
  a51 := Tryz.isAgg253
  z51 := Tryz.sizeOf253
  v51 := Tryz.zeroValue253
  t53 := Tryz.underlying198
  a53 := Tryz.isAgg198
  z53 := Tryz.sizeOf198
  v53 := Tryz.zeroValue198
  t131 := Tryz.underlying68
  a131 := Tryz.isAgg68
  z131 := Tryz.sizeOf68
  v131 := Tryz.zeroValue68
  t182 := Tryz.underlying416
  a182 := Tryz.isAgg416
  z182 := Tryz.sizeOf416
  v182 := Tryz.zeroValue416
  t183 := Tryz.underlying417
  a183 := Tryz.isAgg417
  z183 := Tryz.sizeOf417
  v183 := Tryz.zeroValue417
  t218 := Tryz.underlying436
  a218 := Tryz.isAgg436
  z218 := Tryz.sizeOf436
  v218 := Tryz.zeroValue436
  t222 := Tryz.underlying77
  a222 := Tryz.isAgg77
  z222 := Tryz.sizeOf77
  v222 := Tryz.zeroValue77
  t228 := Tryz.underlying448
  a228 := Tryz.isAgg448
  z228 := Tryz.sizeOf448
  v228 := Tryz.zeroValue448
  t229 := Tryz.underlying449
  a229 := Tryz.isAgg449
  z229 := Tryz.sizeOf449
  v229 := Tryz.zeroValue449 }
open Go.Sort Go.RowKit in
theorem Tryz.slices_Sort_int (blk off cap : Nat) (zs : List Int) (w : World) (hH : Holds (Value.int .i64) w blk off zs.toArray) (hblk : blk < w.heap.size) (hsz : zs.length < 4611686018427387904) :
    Calls Tryz.prog 245 #[.slice (some ⟨blk, off, none⟩) zs.length cap] w fun e w' =>
      e = .returned (.tuple #[]) ∧ ∃ n os, w' = grow (putRow (Value.int .i64) (Sort.ahead w n) blk off (zs.mergeSort fun x y => decide (x ≤ y)).toArray) os := Any.slices_Sort_int Tryz.lays189 blk off cap zs w hH hblk hsz
open Go.RowKit Go.Sort in
theorem Tryz.slices_Sort_int_none (p : Option Addr) (cap : Nat) (w : World) :
    Calls Tryz.prog 245 #[.slice p 0 cap] w fun e w' => e = .returned (.tuple #[]) ∧ w' = w := Any.slices_Sort_int_none Tryz.lays189 p cap w
end Go.Proofs
