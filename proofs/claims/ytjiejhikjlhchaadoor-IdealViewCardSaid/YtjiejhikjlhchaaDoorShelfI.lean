/-
  DERIVED: THE SHELF's CONTRACTS AT THIS DUMP, IN PLAIN WORDS (tools/lay-plain.mjs out of 'YtjiejhikjlhchaaDoorShelfI.lean', which tools/lay-shelf.mjs wrote): THE SAME DECLARATIONS UNDER THE SAME NAMES: 'import', 'namespace', 'open', 'def', 'theorem' AND NOTHING ELSE: no command of the shelf's: FOR A HAND-IN. Each laying: the table of numbers ('.._ren') and one theorem, a field a fact of the dump's own or the kernel's comparison; each contract: ONE APPLICATION.
-/
import Derived.Ground.NamesProg
import Derived.Shelf.Slices.In.SortAlone
import Derived.Test.YtjiejhikjlhchaaDoorProg
namespace Go.Proofs
open Go.Shelf
def Tryd.laysSortI_ren : Go.Shelf.Ren := ⟨fun | 189 => 44 | 125 => 68 | 257 => 67 | 128 => 85 | 129 => 86 | 294 => 76 | 295 => 77 | 296 => 78 | 297 => 79 | 298 => 80 | 299 => 81 | 216 => 82 | 300 => 83 | 301 => 84 | 328 => 96 | 329 => 97 | 330 => 98 | 331 => 99 | 332 => 100 | 215 => 70 | 343 => 104 | n => n, fun | 28 => 22 | 3 => 3 | 46 => 66 | 0 => 0 | 51 => 77 | 53 => 79 | 4 => 4 | 183 => 71 | 182 => 70 | 131 => 56 | 5 => 5 | 9 => 9 | 218 => 85 | 222 => 89 | 228 => 93 | 229 => 94 | n => n, fun | n => n⟩
theorem Tryd.laysSortI : Go.Proofs.Lays.n189 Tryd.prog Tryd.laysSortI_ren := {
  mixed := by kernel_rfl
  f125 := Tryd.func68.trans (congrArg some (by kernel_rfl))
  f128 := Tryd.func85.trans (congrArg some (by kernel_rfl))
  f129 := Tryd.func86.trans (congrArg some (by kernel_rfl))
  f189 := Tryd.func44.trans (congrArg some (by kernel_rfl))
  f215 := Tryd.func70.trans (congrArg some (by kernel_rfl))
  f216 := Tryd.func82.trans (congrArg some (by kernel_rfl))
  f257 := Tryd.func67.trans (congrArg some (by kernel_rfl))
  f294 := Tryd.func76.trans (congrArg some (by kernel_rfl))
  f295 := Tryd.func77.trans (congrArg some (by kernel_rfl))
  f296 := Tryd.func78.trans (congrArg some (by kernel_rfl))
  f297 := Tryd.func79.trans (congrArg some (by kernel_rfl))
  f298 := Tryd.func80.trans (congrArg some (by kernel_rfl))
  f299 := Tryd.func81.trans (congrArg some (by kernel_rfl))
  f300 := Tryd.func83.trans (congrArg some (by kernel_rfl))
  f301 := Tryd.func84.trans (congrArg some (by kernel_rfl))
  f328 := Tryd.func96.trans (congrArg some (by kernel_rfl))
  f329 := Tryd.func97.trans (congrArg some (by kernel_rfl))
  f330 := Tryd.func98.trans (congrArg some (by kernel_rfl))
  f331 := Tryd.func99.trans (congrArg some (by kernel_rfl))
  f332 := Tryd.func100.trans (congrArg some (by kernel_rfl))
  f343 := Tryd.func104.trans (congrArg some (by kernel_rfl))
  t0 := Tryd.underlying0
  a0 := Tryd.isAgg0
  z0 := Tryd.sizeOf0
  v0 := Tryd.zeroValue0
  t3 := Tryd.underlying3
  a3 := Tryd.isAgg3
  z3 := Tryd.sizeOf3
  v3 := Tryd.zeroValue3
  t4 := Tryd.underlying4
  a4 := Tryd.isAgg4
  z4 := Tryd.sizeOf4
  v4 := Tryd.zeroValue4
  t5 := Tryd.underlying5
  a5 := Tryd.isAgg5
  z5 := Tryd.sizeOf5
  v5 := Tryd.zeroValue5
  t9 := Tryd.underlying9
  a9 := Tryd.isAgg9
  z9 := Tryd.sizeOf9
  v9 := Tryd.zeroValue9
  t28 := Tryd.underlying22
  a28 := Tryd.isAgg22
  z28 := Tryd.sizeOf22
  v28 := Tryd.zeroValue22
  t46 := Tryd.underlying66
  a46 := Tryd.isAgg66
  z46 := Tryd.sizeOf66
  v46 := Tryd.zeroValue66
  t51 := Tryd.underlying77
  a51 := Tryd.isAgg77
  z51 := Tryd.sizeOf77
  v51 := Tryd.zeroValue77
  t53 := Tryd.underlying79
  a53 := Tryd.isAgg79
  z53 := Tryd.sizeOf79
  v53 := Tryd.zeroValue79
  t131 := Tryd.underlying56
  a131 := Tryd.isAgg56
  z131 := Tryd.sizeOf56
  v131 := Tryd.zeroValue56
  t182 := Tryd.underlying70
  a182 := Tryd.isAgg70
  z182 := Tryd.sizeOf70
  v182 := Tryd.zeroValue70
  t183 := Tryd.underlying71
  a183 := Tryd.isAgg71
  z183 := Tryd.sizeOf71
  v183 := Tryd.zeroValue71
  t218 := Tryd.underlying85
  a218 := Tryd.isAgg85
  z218 := Tryd.sizeOf85
  v218 := Tryd.zeroValue85
  t222 := Tryd.underlying89
  a222 := Tryd.isAgg89
  z222 := Tryd.sizeOf89
  v222 := Tryd.zeroValue89
  t228 := Tryd.underlying93
  a228 := Tryd.isAgg93
  z228 := Tryd.sizeOf93
  v228 := Tryd.zeroValue93
  t229 := Tryd.underlying94
  a229 := Tryd.isAgg94
  z229 := Tryd.sizeOf94
  v229 := Tryd.zeroValue94 }
end Go.Proofs
