import Derived.Test.YtjdgaogkioabeabGreatDoorShelf
import Derived.Shelf.Sort.Plain
import Derived.Shelf.Slices.In.SortNone
namespace Go.Proofs
open Go.Shelf
def Tryz.lays189_ren : Go.Shelf.Ren := ⟨fun | 189 => 161 | 125 => 194 | 257 => 193 | 128 => 224 | 129 => 113 | 294 => 215 | 295 => 216 | 296 => 217 | 297 => 218 | 298 => 219 | 299 => 220 | 216 => 221 | 300 => 222 | 301 => 223 | 328 => 231 | 329 => 232 | 330 => 233 | 331 => 234 | 332 => 235 | 215 => 236 | 343 => 242 | n => n, fun | 28 => 22 | 3 => 3 | 46 => 195 | 0 => 0 | 51 => 245 | 53 => 91 | 4 => 4 | 183 => 272 | 182 => 271 | 131 => 84 | 5 => 5 | 9 => 9 | 218 => 283 | 222 => 116 | 228 => 295 | 229 => 296 | n => n, fun | n => n⟩
theorem Tryz.lays189 : Go.Proofs.Lays.n189 Tryz.prog Tryz.lays189_ren := {
  mixed := by kernel_rfl
  f125 := Tryz.func194.trans (congrArg some (by kernel_rfl))
  f128 := Tryz.func224.trans (congrArg some (by kernel_rfl))
  f129 := Tryz.func113.trans (congrArg some (by kernel_rfl))
  f189 := Tryz.func161.trans (congrArg some (by kernel_rfl))
  f215 := Tryz.func236.trans (congrArg some (by kernel_rfl))
  f216 := Tryz.func221.trans (congrArg some (by kernel_rfl))
  f257 := Tryz.func193.trans (congrArg some (by kernel_rfl))
  f294 := Tryz.func215.trans (congrArg some (by kernel_rfl))
  f295 := Tryz.func216.trans (congrArg some (by kernel_rfl))
  f296 := Tryz.func217.trans (congrArg some (by kernel_rfl))
  f297 := Tryz.func218.trans (congrArg some (by kernel_rfl))
  f298 := Tryz.func219.trans (congrArg some (by kernel_rfl))
  f299 := Tryz.func220.trans (congrArg some (by kernel_rfl))
  f300 := Tryz.func222.trans (congrArg some (by kernel_rfl))
  f301 := Tryz.func223.trans (congrArg some (by kernel_rfl))
  f328 := Tryz.func231.trans (congrArg some (by kernel_rfl))
  f329 := Tryz.func232.trans (congrArg some (by kernel_rfl))
  f330 := Tryz.func233.trans (congrArg some (by kernel_rfl))
  f331 := Tryz.func234.trans (congrArg some (by kernel_rfl))
  f332 := Tryz.func235.trans (congrArg some (by kernel_rfl))
  f343 := Tryz.func242.trans (congrArg some (by kernel_rfl))
  t0 := Tryz.underlying0
  a0 := Tryz.isAgg0
  z0 := Tryz.sizeOf0
  v0 := Tryz.zeroValue0
  t3 := Tryz.underlying3
  a3 := Tryz.isAgg3
  z3 := Tryz.sizeOf3
  v3 := Tryz.zeroValue3
  t4 := Tryz.underlying4
  a4 := Tryz.isAgg4
  z4 := Tryz.sizeOf4
  v4 := Tryz.zeroValue4
  t5 := Tryz.underlying5
  a5 := Tryz.isAgg5
  z5 := Tryz.sizeOf5
  v5 := Tryz.zeroValue5
  t9 := Tryz.underlying9
  a9 := Tryz.isAgg9
  z9 := Tryz.sizeOf9
  v9 := Tryz.zeroValue9
  t28 := Tryz.underlying22
  a28 := Tryz.isAgg22
  z28 := Tryz.sizeOf22
  v28 := Tryz.zeroValue22
  t46 := Tryz.underlying195
  a46 := Tryz.isAgg195
  z46 := Tryz.sizeOf195
  v46 := Tryz.zeroValue195
  t51 := Tryz.underlying245
  a51 := Tryz.isAgg245
  z51 := Tryz.sizeOf245
  v51 := Tryz.zeroValue245
  t53 := Tryz.underlying91
  a53 := Tryz.isAgg91
  z53 := Tryz.sizeOf91
  v53 := Tryz.zeroValue91
  t131 := Tryz.underlying84
  a131 := Tryz.isAgg84
  z131 := Tryz.sizeOf84
  v131 := Tryz.zeroValue84
  t182 := Tryz.underlying271
  a182 := Tryz.isAgg271
  z182 := Tryz.sizeOf271
  v182 := Tryz.zeroValue271
  t183 := Tryz.underlying272
  a183 := Tryz.isAgg272
  z183 := Tryz.sizeOf272
  v183 := Tryz.zeroValue272
  t218 := Tryz.underlying283
  a218 := Tryz.isAgg283
  z218 := Tryz.sizeOf283
  v218 := Tryz.zeroValue283
  t222 := Tryz.underlying116
  a222 := Tryz.isAgg116
  z222 := Tryz.sizeOf116
  v222 := Tryz.zeroValue116
  t228 := Tryz.underlying295
  a228 := Tryz.isAgg295
  z228 := Tryz.sizeOf295
  v228 := Tryz.zeroValue295
  t229 := Tryz.underlying296
  a229 := Tryz.isAgg296
  z229 := Tryz.sizeOf296
  v229 := Tryz.zeroValue296 }
open Go.Sort Go.RowKit in
theorem Tryz.slices_Sort_int (blk off cap : Nat) (zs : List Int) (w : World) (hH : Holds (Value.int .i64) w blk off zs.toArray) (hblk : blk < w.heap.size) (hsz : zs.length < 4611686018427387904) :
    Calls Tryz.prog 161 #[.slice (some ⟨blk, off, none⟩) zs.length cap] w fun e w' =>
      e = .returned (.tuple #[]) ∧ ∃ n os, w' = grow (putRow (Value.int .i64) (Sort.ahead w n) blk off (zs.mergeSort fun x y => decide (x ≤ y)).toArray) os := Any.slices_Sort_int Tryz.lays189 blk off cap zs w hH hblk hsz
open Go.RowKit Go.Sort in
theorem Tryz.slices_Sort_int_none (p : Option Addr) (cap : Nat) (w : World) :
    Calls Tryz.prog 161 #[.slice p 0 cap] w fun e w' => e = .returned (.tuple #[]) ∧ w' = w := Any.slices_Sort_int_none Tryz.lays189 p cap w
end Go.Proofs
