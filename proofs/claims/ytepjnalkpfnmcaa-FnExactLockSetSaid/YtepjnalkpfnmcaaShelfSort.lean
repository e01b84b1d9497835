/- The library's functions slices.Sort and slices.Compact at this program are those of which its contracts speak, number by number. Conditions: none. -/
import Derived.Shelf.Sort.AssemblyIn
import Derived.Shelf.Slices.In.SortNone
import Derived.Shelf.Slices.CompactI
import Derived.Sort.EveryDepth
import Derived.Ground.NamesProg
import Derived.Ground.Names2Prog
import Derived.Test.YtepjnalkpfnmcaaProg
namespace Go.Proofs.Ytepjnalkpfnmcaa.Shelf
open Go.Shelf Go.Proofs
def laysSort_ren : Go.Shelf.Ren := ⟨fun | 189 => 129 | 125 => 173 | 257 => 172 | 128 => 202 | 129 => 203 | 294 => 193 | 295 => 194 | 296 => 195 | 297 => 196 | 298 => 197 | 299 => 198 | 216 => 199 | 300 => 200 | 301 => 201 | 328 => 210 | 329 => 211 | 330 => 212 | 331 => 213 | 332 => 214 | 215 => 215 | 343 => 218 | n => n, fun | 28 => 32 | 3 => 3 | 46 => 174 | 0 => 0 | 51 => 185 | 53 => 196 | 4 => 4 | 183 => 188 | 182 => 187 | 131 => 176 | 5 => 5 | 9 => 9 | 218 => 201 | 222 => 205 | 228 => 209 | 229 => 210 | n => n, fun | n => n⟩
theorem laysSort : Go.Proofs.Lays.n189 Try.prog laysSort_ren := {
  mixed := by kernel_rfl
  f125 := Try.func173.trans (congrArg some (by kernel_rfl))
  f128 := Try.func202.trans (congrArg some (by kernel_rfl))
  f129 := Try.func203.trans (congrArg some (by kernel_rfl))
  f189 := Try.func129.trans (congrArg some (by kernel_rfl))
  f215 := Try.func215.trans (congrArg some (by kernel_rfl))
  f216 := Try.func199.trans (congrArg some (by kernel_rfl))
  f257 := Try.func172.trans (congrArg some (by kernel_rfl))
  f294 := Try.func193.trans (congrArg some (by kernel_rfl))
  f295 := Try.func194.trans (congrArg some (by kernel_rfl))
  f296 := Try.func195.trans (congrArg some (by kernel_rfl))
  f297 := Try.func196.trans (congrArg some (by kernel_rfl))
  f298 := Try.func197.trans (congrArg some (by kernel_rfl))
  f299 := Try.func198.trans (congrArg some (by kernel_rfl))
  f300 := Try.func200.trans (congrArg some (by kernel_rfl))
  f301 := Try.func201.trans (congrArg some (by kernel_rfl))
  f328 := Try.func210.trans (congrArg some (by kernel_rfl))
  f329 := Try.func211.trans (congrArg some (by kernel_rfl))
  f330 := Try.func212.trans (congrArg some (by kernel_rfl))
  f331 := Try.func213.trans (congrArg some (by kernel_rfl))
  f332 := Try.func214.trans (congrArg some (by kernel_rfl))
  f343 := Try.func218.trans (congrArg some (by kernel_rfl))
  t0 := Try.underlying0
  a0 := Try.isAgg0
  z0 := Try.sizeOf0
  v0 := Try.zeroValue0
  t3 := Try.underlying3
  a3 := Try.isAgg3
  z3 := Try.sizeOf3
  v3 := Try.zeroValue3
  t4 := Try.underlying4
  a4 := Try.isAgg4
  z4 := Try.sizeOf4
  v4 := Try.zeroValue4
  t5 := Try.underlying5
  a5 := Try.isAgg5
  z5 := Try.sizeOf5
  v5 := Try.zeroValue5
  t9 := Try.underlying9
  a9 := Try.isAgg9
  z9 := Try.sizeOf9
  v9 := Try.zeroValue9
  t28 := Try.underlying32
  a28 := Try.isAgg32
  z28 := Try.sizeOf32
  v28 := Try.zeroValue32
  t46 := Try.underlying174
  a46 := Try.isAgg174
  z46 := Try.sizeOf174
  v46 := Try.zeroValue174
  t51 := Try.underlying185
  a51 := Try.isAgg185
  z51 := Try.sizeOf185
  v51 := Try.zeroValue185
  t53 := Try.underlying196
  a53 := Try.isAgg196
  z53 := Try.sizeOf196
  v53 := Try.zeroValue196
  t131 := Try.underlying176
  a131 := Try.isAgg176
  z131 := Try.sizeOf176
  v131 := Try.zeroValue176
  t182 := Try.underlying187
  a182 := Try.isAgg187
  z182 := Try.sizeOf187
  v182 := Try.zeroValue187
  t183 := Try.underlying188
  a183 := Try.isAgg188
  z183 := Try.sizeOf188
  v183 := Try.zeroValue188
  t218 := Try.underlying201
  a218 := Try.isAgg201
  z218 := Try.sizeOf201
  v218 := Try.zeroValue201
  t222 := Try.underlying205
  a222 := Try.isAgg205
  z222 := Try.sizeOf205
  v222 := Try.zeroValue205
  t228 := Try.underlying209
  a228 := Try.isAgg209
  z228 := Try.sizeOf209
  v228 := Try.zeroValue209
  t229 := Try.underlying210
  a229 := Try.isAgg210
  z229 := Try.sizeOf210
  v229 := Try.zeroValue210 }
def laysCompact_ren : Go.Shelf.Ren := ⟨fun | 20 => 130 | n => n, fun | 22 => 32 | 3 => 3 | 4 => 4 | 0 => 0 | n => n, fun | n => n⟩
theorem laysCompact : Go.Proofs.Lays2.n20 Try.prog laysCompact_ren := {
  mixed := by kernel_rfl
  f20 := Try.func130.trans (congrArg some (by kernel_rfl))
  t0 := Try.underlying0
  a0 := Try.isAgg0
  z0 := Try.sizeOf0
  v0 := Try.zeroValue0
  t3 := Try.underlying3
  a3 := Try.isAgg3
  z3 := Try.sizeOf3
  v3 := Try.zeroValue3
  t4 := Try.underlying4
  a4 := Try.isAgg4
  z4 := Try.sizeOf4
  v4 := Try.zeroValue4
  t22 := Try.underlying32
  a22 := Try.isAgg32
  z22 := Try.sizeOf32
  v22 := Try.zeroValue32
  i3 := by kernel_rfl }
end Go.Proofs.Ytepjnalkpfnmcaa.Shelf
