/- The library in this program, and the order of pairs. -/
import Derived.Test.YtfojldlbhhigbaaGreatDoorC
import Derived.Test.YtfojldlbhhigbaaGreatDoorProg
import Derived.Ground.SlsfProg
import Derived.Ground.SlgfProg
import Derived.Ground.NamesProg
import Derived.Shelf.SlSortCmp.NoneTotal
import Derived.Shelf.Strings.OnBuilder
import Derived.Shelf.Strconv.Itoa3
import Derived.Shelf.Sort.Plain
import Derived.Shelf.Slices.In.SortNone
import Derived.Shelf.Slices.CompactS
import Derived.Shelf.SlicesE.DeleteFunc
import Derived.Shelf.Small.Strs
import Derived.Lib.Small
import Derived.Shelf.Abstract
import Derived.Lib.Walk
import Derived.WalkKit
import Derived.Deep.LoopGhost
import Derived.Deep.Draws
import Derived.Sort.Grow
import Derived.Deep.QuietTactic
set_option linter.unusedVariables false
set_option linter.unusedSimpArgs false
set_option linter.unusedSectionVars false
/-
  DERIVED: THE SHELF's CONTRACTS AT THIS DUMP, IN PLAIN WORDS (tools/lay-plain.mjs out of 'YtfojldlbhhigbaaGreatDoorShT.lean', which tools/lay-shelf.mjs wrote): THE SAME DECLARATIONS UNDER THE SAME NAMES: 'import', 'namespace', 'open', 'def', 'theorem' AND NOTHING ELSE: no command of the shelf's: FOR A HAND-IN. Each laying: the table of numbers ('.._ren') and one theorem, a field a fact of the dump's own or the kernel's comparison; each contract: ONE APPLICATION.
-/
namespace Go.Proofs
open Go.Shelf
def Tryz.sortSK_ren : Go.Shelf.Ren := ⟨fun | 6 => 33 | 15 => 66 | 14 => 65 | 28 => 101 | 29 => 102 | 20 => 93 | 21 => 94 | 22 => 95 | 23 => 96 | 24 => 97 | 25 => 98 | 26 => 99 | 27 => 100 | 46 => 128 | 47 => 129 | 48 => 130 | 49 => 131 | 50 => 132 | 57 => 159 | n => n, fun | 22 => 32 | 24 => 9 | 25 => 74 | 3 => 3 | 39 => 109 | 0 => 0 | 53 => 134 | 55 => 158 | 4 => 4 | 46 => 150 | 45 => 149 | 50 => 154 | 5 => 5 | 9 => 9 | 66 => 172 | 70 => 176 | 76 => 210 | 77 => 211 | n => n, fun | n => n⟩
theorem Tryz.sortSK : Go.Proofs.SlLaysF.n6 Tryz.prog Tryz.sortSK_ren := {
  mixed := by kernel_rfl
  f6 := ⟨Tryz.f33.name, by decide, Tryz.func33.trans (congrArg some (by kernel_rfl))⟩
  f14 := ⟨Tryz.f65.name, by decide, Tryz.func65.trans (congrArg some (by kernel_rfl))⟩
  f15 := Tryz.func66.trans (congrArg some (by kernel_rfl))
  f20 := ⟨Tryz.f93.name, by decide, Tryz.func93.trans (congrArg some (by kernel_rfl))⟩
  f21 := ⟨Tryz.f94.name, by decide, Tryz.func94.trans (congrArg some (by kernel_rfl))⟩
  f22 := ⟨Tryz.f95.name, by decide, Tryz.func95.trans (congrArg some (by kernel_rfl))⟩
  f23 := ⟨Tryz.f96.name, by decide, Tryz.func96.trans (congrArg some (by kernel_rfl))⟩
  f24 := ⟨Tryz.f97.name, by decide, Tryz.func97.trans (congrArg some (by kernel_rfl))⟩
  f25 := ⟨Tryz.f98.name, by decide, Tryz.func98.trans (congrArg some (by kernel_rfl))⟩
  f26 := ⟨Tryz.f99.name, by decide, Tryz.func99.trans (congrArg some (by kernel_rfl))⟩
  f27 := ⟨Tryz.f100.name, by decide, Tryz.func100.trans (congrArg some (by kernel_rfl))⟩
  f28 := Tryz.func101.trans (congrArg some (by kernel_rfl))
  f29 := Tryz.func102.trans (congrArg some (by kernel_rfl))
  f46 := ⟨Tryz.f128.name, by decide, Tryz.func128.trans (congrArg some (by kernel_rfl))⟩
  f47 := Tryz.func129.trans (congrArg some (by kernel_rfl))
  f48 := Tryz.func130.trans (congrArg some (by kernel_rfl))
  f49 := ⟨Tryz.f131.name, by decide, Tryz.func131.trans (congrArg some (by kernel_rfl))⟩
  f50 := ⟨Tryz.f132.name, by decide, Tryz.func132.trans (congrArg some (by kernel_rfl))⟩
  f57 := ⟨Tryz.f159.name, by decide, Tryz.func159.trans (congrArg some (by kernel_rfl))⟩
  t0 := Tryz.underlying0
  a0 := Tryz.isAgg0
  z0 := Tryz.sizeOf0
  v0 := Tryz.zeroValue0
  t3 := Tryz.underlying3
  a3 := Tryz.isAgg3
  z3 := Tryz.sizeOf3
  v3 := Tryz.zeroValue3
  t4 := Tryz.underlying4
  a4 := Tryz.isAgg4
  z4 := Tryz.sizeOf4
  v4 := Tryz.zeroValue4
  t5 := Tryz.underlying5
  a5 := Tryz.isAgg5
  z5 := Tryz.sizeOf5
  v5 := Tryz.zeroValue5
  t9 := Tryz.underlying9
  a9 := Tryz.isAgg9
  z9 := Tryz.sizeOf9
  v9 := Tryz.zeroValue9
  t22 := Tryz.underlying32
  a22 := Tryz.isAgg32
  z22 := Tryz.sizeOf32
  v22 := Tryz.zeroValue32
  a24 := Tryz.isAgg9
  z24 := Tryz.sizeOf9
  t25 := Tryz.underlying74
  a25 := Tryz.isAgg74
  z25 := Tryz.sizeOf74
  v25 := Tryz.zeroValue74
  t39 := Tryz.underlying109
  a39 := Tryz.isAgg109
  z39 := Tryz.sizeOf109
  v39 := Tryz.zeroValue109
  t45 := Tryz.underlying149
  a45 := Tryz.isAgg149
  z45 := Tryz.sizeOf149
  v45 := Tryz.zeroValue149
  t46 := Tryz.underlying150
  a46 := Tryz.isAgg150
  z46 := Tryz.sizeOf150
  v46 := Tryz.zeroValue150
  t50 := Tryz.underlying154
  a50 := Tryz.isAgg154
  z50 := Tryz.sizeOf154
  v50 := Tryz.zeroValue154
  t53 := Tryz.underlying134
  a53 := Tryz.isAgg134
  z53 := Tryz.sizeOf134
  v53 := Tryz.zeroValue134
  t55 := Tryz.underlying158
  a55 := Tryz.isAgg158
  z55 := Tryz.sizeOf158
  v55 := Tryz.zeroValue158
  t66 := Tryz.underlying172
  a66 := Tryz.isAgg172
  z66 := Tryz.sizeOf172
  v66 := Tryz.zeroValue172
  t70 := Tryz.underlying176
  a70 := Tryz.isAgg176
  z70 := Tryz.sizeOf176
  v70 := Tryz.zeroValue176
  t76 := Tryz.underlying210
  a76 := Tryz.isAgg210
  z76 := Tryz.sizeOf210
  v76 := Tryz.zeroValue210
  t77 := Tryz.underlying211
  a77 := Tryz.isAgg211
  z77 := Tryz.sizeOf211
  v77 := Tryz.zeroValue211 }
def Tryz.sortPK_ren : Go.Shelf.Ren := ⟨fun | 6 => 44 | 15 => 66 | 14 => 75 | 28 => 101 | 29 => 102 | 20 => 108 | 21 => 109 | 22 => 110 | 23 => 111 | 24 => 112 | 25 => 113 | 26 => 114 | 27 => 115 | 46 => 133 | 47 => 129 | 48 => 130 | 49 => 134 | 50 => 135 | 57 => 160 | n => n, fun | 22 => 36 | 24 => 52 | 25 => 92 | 3 => 3 | 39 => 109 | 0 => 0 | 53 => 134 | 55 => 158 | 4 => 4 | 46 => 150 | 45 => 149 | 50 => 154 | 5 => 5 | 9 => 9 | 66 => 172 | 70 => 176 | 76 => 210 | 77 => 211 | n => n, fun | n => n⟩
theorem Tryz.sortPK : Go.Proofs.SlLaysF0.n6 Tryz.prog Tryz.sortPK_ren := {
  mixed := by kernel_rfl
  f6 := ⟨Tryz.f44.name, by decide, Tryz.func44.trans (congrArg some (by kernel_rfl))⟩
  f14 := ⟨Tryz.f75.name, by decide, Tryz.func75.trans (congrArg some (by kernel_rfl))⟩
  f15 := Tryz.func66.trans (congrArg some (by kernel_rfl))
  f20 := ⟨Tryz.f108.name, by decide, Tryz.func108.trans (congrArg some (by kernel_rfl))⟩
  f21 := ⟨Tryz.f109.name, by decide, Tryz.func109.trans (congrArg some (by kernel_rfl))⟩
  f22 := ⟨Tryz.f110.name, by decide, Tryz.func110.trans (congrArg some (by kernel_rfl))⟩
  f23 := ⟨Tryz.f111.name, by decide, Tryz.func111.trans (congrArg some (by kernel_rfl))⟩
  f24 := ⟨Tryz.f112.name, by decide, Tryz.func112.trans (congrArg some (by kernel_rfl))⟩
  f25 := ⟨Tryz.f113.name, by decide, Tryz.func113.trans (congrArg some (by kernel_rfl))⟩
  f26 := ⟨Tryz.f114.name, by decide, Tryz.func114.trans (congrArg some (by kernel_rfl))⟩
  f27 := ⟨Tryz.f115.name, by decide, Tryz.func115.trans (congrArg some (by kernel_rfl))⟩
  f28 := Tryz.func101.trans (congrArg some (by kernel_rfl))
  f29 := Tryz.func102.trans (congrArg some (by kernel_rfl))
  f46 := ⟨Tryz.f133.name, by decide, Tryz.func133.trans (congrArg some (by kernel_rfl))⟩
  f47 := Tryz.func129.trans (congrArg some (by kernel_rfl))
  f48 := Tryz.func130.trans (congrArg some (by kernel_rfl))
  f49 := ⟨Tryz.f134.name, by decide, Tryz.func134.trans (congrArg some (by kernel_rfl))⟩
  f50 := ⟨Tryz.f135.name, by decide, Tryz.func135.trans (congrArg some (by kernel_rfl))⟩
  f57 := ⟨Tryz.f160.name, by decide, Tryz.func160.trans (congrArg some (by kernel_rfl))⟩
  t0 := Tryz.underlying0
  a0 := Tryz.isAgg0
  z0 := Tryz.sizeOf0
  v0 := Tryz.zeroValue0
  t3 := Tryz.underlying3
  a3 := Tryz.isAgg3
  z3 := Tryz.sizeOf3
  v3 := Tryz.zeroValue3
  t4 := Tryz.underlying4
  a4 := Tryz.isAgg4
  z4 := Tryz.sizeOf4
  v4 := Tryz.zeroValue4
  t5 := Tryz.underlying5
  a5 := Tryz.isAgg5
  z5 := Tryz.sizeOf5
  v5 := Tryz.zeroValue5
  t9 := Tryz.underlying9
  a9 := Tryz.isAgg9
  z9 := Tryz.sizeOf9
  v9 := Tryz.zeroValue9
  t22 := Tryz.underlying36
  a22 := Tryz.isAgg36
  z22 := Tryz.sizeOf36
  v22 := Tryz.zeroValue36
  t25 := Tryz.underlying92
  a25 := Tryz.isAgg92
  z25 := Tryz.sizeOf92
  v25 := Tryz.zeroValue92
  t39 := Tryz.underlying109
  a39 := Tryz.isAgg109
  z39 := Tryz.sizeOf109
  v39 := Tryz.zeroValue109
  t45 := Tryz.underlying149
  a45 := Tryz.isAgg149
  z45 := Tryz.sizeOf149
  v45 := Tryz.zeroValue149
  t46 := Tryz.underlying150
  a46 := Tryz.isAgg150
  z46 := Tryz.sizeOf150
  v46 := Tryz.zeroValue150
  t50 := Tryz.underlying154
  a50 := Tryz.isAgg154
  z50 := Tryz.sizeOf154
  v50 := Tryz.zeroValue154
  t53 := Tryz.underlying134
  a53 := Tryz.isAgg134
  z53 := Tryz.sizeOf134
  v53 := Tryz.zeroValue134
  t55 := Tryz.underlying158
  a55 := Tryz.isAgg158
  z55 := Tryz.sizeOf158
  v55 := Tryz.zeroValue158
  t66 := Tryz.underlying172
  a66 := Tryz.isAgg172
  z66 := Tryz.sizeOf172
  v66 := Tryz.zeroValue172
  t70 := Tryz.underlying176
  a70 := Tryz.isAgg176
  z70 := Tryz.sizeOf176
  v70 := Tryz.zeroValue176
  t76 := Tryz.underlying210
  a76 := Tryz.isAgg210
  z76 := Tryz.sizeOf210
  v76 := Tryz.zeroValue210
  t77 := Tryz.underlying211
  a77 := Tryz.isAgg211
  z77 := Tryz.sizeOf211
  v77 := Tryz.zeroValue211 }
def Tryz.delK_ren : Go.Shelf.Ren := ⟨fun | 10 => 30 | 6 => 64 | n => n, fun | 22 => 32 | 23 => 9 | 25 => 72 | 3 => 3 | 4 => 4 | 0 => 0 | n => n, fun | n => n⟩
theorem Tryz.delK : Go.Proofs.SlLaysH.n10 Tryz.prog Tryz.delK_ren := {
  mixed := by kernel_rfl
  f6 := ⟨Tryz.f64.name, by decide, Tryz.func64.trans (congrArg some (by kernel_rfl))⟩
  f10 := ⟨Tryz.f30.name, by decide, Tryz.func30.trans (congrArg some (by kernel_rfl))⟩
  t0 := Tryz.underlying0
  a0 := Tryz.isAgg0
  z0 := Tryz.sizeOf0
  v0 := Tryz.zeroValue0
  t3 := Tryz.underlying3
  a3 := Tryz.isAgg3
  z3 := Tryz.sizeOf3
  v3 := Tryz.zeroValue3
  t4 := Tryz.underlying4
  a4 := Tryz.isAgg4
  z4 := Tryz.sizeOf4
  v4 := Tryz.zeroValue4
  t22 := Tryz.underlying32
  a22 := Tryz.isAgg32
  z22 := Tryz.sizeOf32
  v22 := Tryz.zeroValue32
  a23 := Tryz.isAgg9
  z23 := Tryz.sizeOf9
  t25 := Tryz.underlying72
  a25 := Tryz.isAgg72
  z25 := Tryz.sizeOf72
  v25 := Tryz.zeroValue72 }
def Tryz.sortSJ_ren : Go.Shelf.Ren := ⟨fun | 190 => 85 | 125 => 66 | 258 => 120 | 128 => 101 | 129 => 102 | 302 => 138 | 303 => 139 | 304 => 140 | 305 => 141 | 306 => 142 | 307 => 143 | 308 => 144 | 309 => 145 | 310 => 146 | 333 => 161 | 329 => 129 | 330 => 130 | 334 => 162 | 335 => 163 | 336 => 164 | 344 => 175 | n => n, fun | 31 => 32 | 9 => 9 | 3 => 3 | 46 => 109 | 0 => 0 | 51 => 134 | 53 => 158 | 4 => 4 | 183 => 150 | 182 => 149 | 131 => 154 | 5 => 5 | 218 => 172 | 222 => 176 | 228 => 210 | 229 => 211 | n => n, fun | n => n⟩
theorem Tryz.sortSJ : Go.Proofs.Lays.n190 Tryz.prog Tryz.sortSJ_ren := {
  mixed := by kernel_rfl
  f125 := Tryz.func66.trans (congrArg some (by kernel_rfl))
  f128 := Tryz.func101.trans (congrArg some (by kernel_rfl))
  f129 := Tryz.func102.trans (congrArg some (by kernel_rfl))
  f190 := Tryz.func85.trans (congrArg some (by kernel_rfl))
  f258 := Tryz.func120.trans (congrArg some (by kernel_rfl))
  f302 := Tryz.func138.trans (congrArg some (by kernel_rfl))
  f303 := Tryz.func139.trans (congrArg some (by kernel_rfl))
  f304 := Tryz.func140.trans (congrArg some (by kernel_rfl))
  f305 := Tryz.func141.trans (congrArg some (by kernel_rfl))
  f306 := Tryz.func142.trans (congrArg some (by kernel_rfl))
  f307 := Tryz.func143.trans (congrArg some (by kernel_rfl))
  f308 := Tryz.func144.trans (congrArg some (by kernel_rfl))
  f309 := Tryz.func145.trans (congrArg some (by kernel_rfl))
  f310 := Tryz.func146.trans (congrArg some (by kernel_rfl))
  f329 := Tryz.func129.trans (congrArg some (by kernel_rfl))
  f330 := Tryz.func130.trans (congrArg some (by kernel_rfl))
  f333 := Tryz.func161.trans (congrArg some (by kernel_rfl))
  f334 := Tryz.func162.trans (congrArg some (by kernel_rfl))
  f335 := Tryz.func163.trans (congrArg some (by kernel_rfl))
  f336 := Tryz.func164.trans (congrArg some (by kernel_rfl))
  f344 := Tryz.func175.trans (congrArg some (by kernel_rfl))
  t0 := Tryz.underlying0
  a0 := Tryz.isAgg0
  z0 := Tryz.sizeOf0
  v0 := Tryz.zeroValue0
  t3 := Tryz.underlying3
  a3 := Tryz.isAgg3
  z3 := Tryz.sizeOf3
  v3 := Tryz.zeroValue3
  t4 := Tryz.underlying4
  a4 := Tryz.isAgg4
  z4 := Tryz.sizeOf4
  v4 := Tryz.zeroValue4
  t5 := Tryz.underlying5
  a5 := Tryz.isAgg5
  z5 := Tryz.sizeOf5
  v5 := Tryz.zeroValue5
  t9 := Tryz.underlying9
  a9 := Tryz.isAgg9
  z9 := Tryz.sizeOf9
  v9 := Tryz.zeroValue9
  t31 := Tryz.underlying32
  a31 := Tryz.isAgg32
  z31 := Tryz.sizeOf32
  v31 := Tryz.zeroValue32
  t46 := Tryz.underlying109
  a46 := Tryz.isAgg109
  z46 := Tryz.sizeOf109
  v46 := Tryz.zeroValue109
  t51 := Tryz.underlying134
  a51 := Tryz.isAgg134
  z51 := Tryz.sizeOf134
  v51 := Tryz.zeroValue134
  t53 := Tryz.underlying158
  a53 := Tryz.isAgg158
  z53 := Tryz.sizeOf158
  v53 := Tryz.zeroValue158
  t131 := Tryz.underlying154
  a131 := Tryz.isAgg154
  z131 := Tryz.sizeOf154
  v131 := Tryz.zeroValue154
  t182 := Tryz.underlying149
  a182 := Tryz.isAgg149
  z182 := Tryz.sizeOf149
  v182 := Tryz.zeroValue149
  t183 := Tryz.underlying150
  a183 := Tryz.isAgg150
  z183 := Tryz.sizeOf150
  v183 := Tryz.zeroValue150
  t218 := Tryz.underlying172
  a218 := Tryz.isAgg172
  z218 := Tryz.sizeOf172
  v218 := Tryz.zeroValue172
  t222 := Tryz.underlying176
  a222 := Tryz.isAgg176
  z222 := Tryz.sizeOf176
  v222 := Tryz.zeroValue176
  t228 := Tryz.underlying210
  a228 := Tryz.isAgg210
  z228 := Tryz.sizeOf210
  v228 := Tryz.zeroValue210
  t229 := Tryz.underlying211
  a229 := Tryz.isAgg211
  z229 := Tryz.sizeOf211
  v229 := Tryz.zeroValue211 }
def Tryz.compJ_ren : Go.Shelf.Ren := ⟨fun | 194 => 35 | n => n, fun | 31 => 32 | 9 => 9 | 3 => 3 | 4 => 4 | 0 => 0 | n => n, fun | n => n⟩
theorem Tryz.compJ : Go.Proofs.Lays.n194 Tryz.prog Tryz.compJ_ren := {
  mixed := by kernel_rfl
  f194 := Tryz.func35.trans (congrArg some (by kernel_rfl))
  t0 := Tryz.underlying0
  a0 := Tryz.isAgg0
  z0 := Tryz.sizeOf0
  v0 := Tryz.zeroValue0
  t3 := Tryz.underlying3
  a3 := Tryz.isAgg3
  z3 := Tryz.sizeOf3
  v3 := Tryz.zeroValue3
  t4 := Tryz.underlying4
  a4 := Tryz.isAgg4
  z4 := Tryz.sizeOf4
  v4 := Tryz.zeroValue4
  t9 := Tryz.underlying9
  a9 := Tryz.isAgg9
  z9 := Tryz.sizeOf9
  v9 := Tryz.zeroValue9
  t31 := Tryz.underlying32
  a31 := Tryz.isAgg32
  z31 := Tryz.sizeOf32
  v31 := Tryz.zeroValue32 }
def Tryz.joinL_ren : Go.Shelf.Ren := ⟨fun | 156 => 48 | 165 => 78 | 166 => 79 | 169 => 80 | 240 => 118 | 241 => 119 | 276 => 136 | 277 => 137 | n => n, fun | 31 => 32 | 9 => 9 | 3 => 3 | 4 => 4 | 0 => 0 | 20 => 20 | 72 => 119 | 76 => 123 | 70 => 116 | 37 => 117 | 75 => 122 | 127 => 166 | 164 => 180 | 5 => 5 | 80 => 125 | n => n, fun | n => n⟩
theorem Tryz.joinL : Go.Proofs.Lays.n156 Tryz.prog Tryz.joinL_ren := {
  mixed := by kernel_rfl
  f156 := Tryz.func48.trans (congrArg some (by kernel_rfl))
  f165 := Tryz.func78.trans (congrArg some (by kernel_rfl))
  f166 := Tryz.func79.trans (congrArg some (by kernel_rfl))
  f169 := Tryz.func80.trans (congrArg some (by kernel_rfl))
  f240 := Tryz.func118.trans (congrArg some (by kernel_rfl))
  f241 := Tryz.func119.trans (congrArg some (by kernel_rfl))
  f276 := Tryz.func136.trans (congrArg some (by kernel_rfl))
  f277 := Tryz.func137.trans (congrArg some (by kernel_rfl))
  t0 := Tryz.underlying0
  a0 := Tryz.isAgg0
  z0 := Tryz.sizeOf0
  v0 := Tryz.zeroValue0
  t3 := Tryz.underlying3
  a3 := Tryz.isAgg3
  z3 := Tryz.sizeOf3
  v3 := Tryz.zeroValue3
  t4 := Tryz.underlying4
  a4 := Tryz.isAgg4
  z4 := Tryz.sizeOf4
  v4 := Tryz.zeroValue4
  t9 := Tryz.underlying9
  a9 := Tryz.isAgg9
  z9 := Tryz.sizeOf9
  v9 := Tryz.zeroValue9
  t20 := Tryz.underlying20
  a20 := Tryz.isAgg20
  z20 := Tryz.sizeOf20
  v20 := Tryz.zeroValue20
  t31 := Tryz.underlying32
  a31 := Tryz.isAgg32
  z31 := Tryz.sizeOf32
  v31 := Tryz.zeroValue32
  t37 := Tryz.underlying117
  a37 := Tryz.isAgg117
  z37 := Tryz.sizeOf117
  v37 := Tryz.zeroValue117
  t70 := Tryz.underlying116
  a70 := Tryz.isAgg116
  z70 := Tryz.sizeOf116
  v70 := Tryz.zeroValue116
  t72 := Tryz.underlying119
  a72 := Tryz.isAgg119
  z72 := Tryz.sizeOf119
  v72 := Tryz.zeroValue119
  t75 := Tryz.underlying122
  a75 := Tryz.isAgg122
  z75 := Tryz.sizeOf122
  v75 := Tryz.zeroValue122
  t76 := Tryz.underlying123
  a76 := Tryz.isAgg123
  z76 := Tryz.sizeOf123
  v76 := Tryz.zeroValue123
  t127 := Tryz.underlying166
  a127 := Tryz.isAgg166
  z127 := Tryz.sizeOf166
  v127 := Tryz.zeroValue166
  t164 := Tryz.underlying180
  a164 := Tryz.isAgg180
  z164 := Tryz.sizeOf180
  v164 := Tryz.zeroValue180 }
def Tryz.itoaL_ren : Go.Shelf.Ren := ⟨fun | 171 => 62 | 243 => 91 | 246 => 127 | 283 => 155 | 284 => 156 | 285 => 157 | 286 => 158 | 129 => 102 | 317 => 171 | 318 => 172 | 319 => 173 | 320 => 174 | 337 => 186 | 338 => 187 | n => n, fun | 3 => 3 | 9 => 9 | 2 => 2 | 4 => 4 | 171 => 206 | 0 => 0 | 53 => 158 | 37 => 117 | 5 => 5 | 173 => 208 | 212 => 231 | 51 => 134 | 20 => 20 | 213 => 232 | 46 => 109 | 232 => 246 | 233 => 247 | n => n, fun | 17 => 1 | 18 => 2 | 19 => 3 | n => n⟩
theorem Tryz.itoaL : Go.Proofs.LaysM.n171 Tryz.prog Tryz.itoaL_ren := {
  mixed := by kernel_rfl
  f129 := Tryz.func102.trans (congrArg some (by kernel_rfl))
  f171 := Tryz.func62.trans (congrArg some (by kernel_rfl))
  f243 := Tryz.func91.trans (congrArg some (by kernel_rfl))
  f246 := Tryz.func127.trans (congrArg some (by kernel_rfl))
  f283 := Tryz.func155.trans (congrArg some (by kernel_rfl))
  f284 := Tryz.func156.trans (congrArg some (by kernel_rfl))
  f285 := Tryz.func157.trans (congrArg some (by kernel_rfl))
  f286 := Tryz.func158.trans (congrArg some (by kernel_rfl))
  f317 := Tryz.func171.trans (congrArg some (by kernel_rfl))
  f318 := Tryz.func172.trans (congrArg some (by kernel_rfl))
  f319 := Tryz.func173.trans (congrArg some (by kernel_rfl))
  f320 := Tryz.func174.trans (congrArg some (by kernel_rfl))
  f337 := Tryz.func186.trans (congrArg some (by kernel_rfl))
  f338 := Tryz.func187.trans (congrArg some (by kernel_rfl))
  t0 := Tryz.underlying0
  a0 := Tryz.isAgg0
  z0 := Tryz.sizeOf0
  v0 := Tryz.zeroValue0
  t2 := Tryz.underlying2
  a2 := Tryz.isAgg2
  z2 := Tryz.sizeOf2
  v2 := Tryz.zeroValue2
  t3 := Tryz.underlying3
  a3 := Tryz.isAgg3
  z3 := Tryz.sizeOf3
  v3 := Tryz.zeroValue3
  t4 := Tryz.underlying4
  a4 := Tryz.isAgg4
  z4 := Tryz.sizeOf4
  v4 := Tryz.zeroValue4
  t5 := Tryz.underlying5
  a5 := Tryz.isAgg5
  z5 := Tryz.sizeOf5
  v5 := Tryz.zeroValue5
  t9 := Tryz.underlying9
  a9 := Tryz.isAgg9
  z9 := Tryz.sizeOf9
  v9 := Tryz.zeroValue9
  t20 := Tryz.underlying20
  a20 := Tryz.isAgg20
  z20 := Tryz.sizeOf20
  v20 := Tryz.zeroValue20
  t37 := Tryz.underlying117
  a37 := Tryz.isAgg117
  z37 := Tryz.sizeOf117
  v37 := Tryz.zeroValue117
  t46 := Tryz.underlying109
  a46 := Tryz.isAgg109
  z46 := Tryz.sizeOf109
  v46 := Tryz.zeroValue109
  t51 := Tryz.underlying134
  a51 := Tryz.isAgg134
  z51 := Tryz.sizeOf134
  v51 := Tryz.zeroValue134
  t53 := Tryz.underlying158
  a53 := Tryz.isAgg158
  z53 := Tryz.sizeOf158
  v53 := Tryz.zeroValue158
  t171 := Tryz.underlying206
  a171 := Tryz.isAgg206
  z171 := Tryz.sizeOf206
  v171 := Tryz.zeroValue206
  t173 := Tryz.underlying208
  a173 := Tryz.isAgg208
  z173 := Tryz.sizeOf208
  v173 := Tryz.zeroValue208
  t212 := Tryz.underlying231
  a212 := Tryz.isAgg231
  z212 := Tryz.sizeOf231
  v212 := Tryz.zeroValue231
  t213 := Tryz.underlying232
  a213 := Tryz.isAgg232
  z213 := Tryz.sizeOf232
  t232 := Tryz.underlying246
  a232 := Tryz.isAgg246
  z232 := Tryz.sizeOf246
  v232 := Tryz.zeroValue246
  t233 := Tryz.underlying247
  a233 := Tryz.isAgg247
  z233 := Tryz.sizeOf247
  v233 := Tryz.zeroValue247
  g17 := by kernel_rfl
  g18 := by kernel_rfl
  g19 := by kernel_rfl
  i0 := by kernel_rfl
  i2 := by kernel_rfl
  i3 := by kernel_rfl
  i4 := by kernel_rfl
  i5 := by kernel_rfl
  i9 := by kernel_rfl
  i20 := by kernel_rfl
  i37 := by kernel_rfl
  i46 := by kernel_rfl
  i51 := by kernel_rfl
  i53 := by kernel_rfl
  i171 := by kernel_rfl
  i173 := by kernel_rfl
  i212 := by kernel_rfl
  i232 := by kernel_rfl
  i233 := by kernel_rfl
  m17 := by kernel_rfl
  m18 := by kernel_rfl
  m19 := by kernel_rfl }
def Tryz.cmpL_ren : Go.Shelf.Ren := ⟨fun | 106 => 34 | 213 => 67 | 265 => 103 | n => n, fun | 9 => 9 | 3 => 3 | n => n, fun | n => n⟩
theorem Tryz.cmpL : Go.Proofs.Lays.n106 Tryz.prog Tryz.cmpL_ren := {
  mixed := by kernel_rfl
  f106 := Tryz.func34.trans (congrArg some (by kernel_rfl))
  f213 := Tryz.func67.trans (congrArg some (by kernel_rfl))
  f265 := Tryz.func103.trans (congrArg some (by kernel_rfl))
  t3 := Tryz.underlying3
  a3 := Tryz.isAgg3
  z3 := Tryz.sizeOf3
  v3 := Tryz.zeroValue3
  t9 := Tryz.underlying9
  a9 := Tryz.isAgg9
  z9 := Tryz.sizeOf9
  v9 := Tryz.zeroValue9 }
end Go.Proofs

/- The order of pairs, by the kit's own walk: cmp.Compare, slices.Compare at rows of two, the closure of block.Pairs. -/
namespace Go.Proofs
open Go.Lib
theorem kNaN (x : Int) (w : World) : Calls Tryz.prog 116 #[.int .i64 x] w fun e w' => e = .returned (.bool false) ∧ w' = w := by
  go_enter Tryz.func116, Tryz.ntmps116
  go_wp2
  go_ret
  exact ⟨by simp, rfl⟩
theorem kCmp (x y : Int) (w : World) : Calls Tryz.prog 76 #[.int .i64 x, .int .i64 y] w fun e w' => e = .returned (.int .i64 (Lib.compareInt x y)) ∧ w' = w := by
  go_enter Tryz.func76, Tryz.ntmps76
  go_wp2_with (go_at_call 116; refine (kNaN _ _).mono ?_; rintro e w' ⟨rfl, hw⟩; rw [hw])
  all_goals (go_ret; refine ⟨?_, rfl⟩; unfold Lib.compareInt; (repeat' split) <;> first | rfl | (exfalso; omega))
def pcmp (p q : Int × Int) : Int := if Lib.compareInt p.1 q.1 ≠ 0 then Lib.compareInt p.1 q.1 else Lib.compareInt p.2 q.2
theorem kCmpRow (x0 x1 y0 y1 : Int) (b c : Nat) (w : World) (hx0 : w.cell? ⟨b, 0, none⟩ = some (.int .i64 x0)) (hx1 : w.cell? ⟨b, 1, none⟩ = some (.int .i64 x1)) (hy0 : w.cell? ⟨c, 0, none⟩ = some (.int .i64 y0)) (hy1 : w.cell? ⟨c, 1, none⟩ = some (.int .i64 y1)) :
    Calls Tryz.prog 46 #[.slice (some ⟨b, 0, none⟩) 2 2, .slice (some ⟨c, 0, none⟩) 2 2] w fun e w' => e = .returned (.int .i64 (pcmp (x0, x1) (y0, y1))) ∧ ∃ q, w' = w.drewN q := by
  go_enter Tryz.func46, Tryz.ntmps46
  go_wp2
  go_loopg [5, 6, 7, 8, 11] 2 (fun gg _ _ _ _ s8 wr => ∃ kk q : Nat, kk ≤ 2 ∧ 2 - kk ≤ gg ∧ s8 = .int .i64 kk ∧ wr = w.drewN q ∧ Aside (0 < kk → Lib.compareInt x0 y0 = 0) ∧ Aside (1 < kk → Lib.compareInt x1 y1 = 0))
  case atStart => exact ⟨0, 0, Nat.zero_le _, by omega, rfl, rfl, fun h => absurd h (Nat.lt_irrefl _), fun h => absurd h (Nat.not_lt_zero _)⟩
  case round =>
    obtain ⟨kk, q, hkk, hg, rfl, rfl, A, B⟩ := hrel
    have hcall := kCmp
    rcases (by omega : kk = 0 ∨ kk = 1 ∨ kk = 2) with rfl | rfl | rfl
    · by_cases h0 : Lib.compareInt x0 y0 = 0
      · have hc := hcall x0 y0
        rw [h0] at hc
        go_wp2_with (go_at_call 76; refine (hc _).mono ?_; rintro e w' ⟨rfl, hw⟩; rw [hw])
        go_roundg 1
        case measure => omega
        case rel => exact ⟨1, _, by omega, by omega, by go_num, rfl, (show Aside _ from fun _ => h0), (show Aside _ from fun h => absurd h (by omega))⟩
      · have hc := hcall x0 y0
        generalize hz : Lib.compareInt x0 y0 = z at hc h0
        go_wp2_with (go_at_call 76; refine (hc _).mono ?_; rintro e w' ⟨rfl, hw⟩; rw [hw])
        go_ret
        refine ⟨?_, _, rfl⟩
        simp [pcmp, hz, h0]
    · have h0 := A.out (by omega)
      by_cases h1 : Lib.compareInt x1 y1 = 0
      · have hc := hcall x1 y1
        rw [h1] at hc
        go_wp2_with (go_at_call 76; refine (hc _).mono ?_; rintro e w' ⟨rfl, hw⟩; rw [hw])
        go_roundg 0
        case measure => omega
        case rel => exact ⟨2, _, by omega, by omega, by go_num, rfl, (show Aside _ from fun _ => h0), (show Aside _ from fun _ => h1)⟩
      · have hc := hcall x1 y1
        generalize hz : Lib.compareInt x1 y1 = z at hc h1
        go_wp2_with (go_at_call 76; refine (hc _).mono ?_; rintro e w' ⟨rfl, hw⟩; rw [hw])
        go_ret
        refine ⟨?_, _, rfl⟩
        simp [pcmp, h0, hz]
    · have h0 := A.out (by omega)
      have h1 := B.out (by omega)
      go_wp2
      go_ret
      refine ⟨?_, _, rfl⟩
      simp [pcmp, h0, h1]
theorem kPair (p q : Int × Int) (w : World) : Calls Tryz.prog 45 #[.agg #[.int .i64 p.1, .int .i64 p.2], .agg #[.int .i64 q.1, .int .i64 q.2]] w fun e w' => e = .returned (.int .i64 (pcmp p q)) ∧ ∃ q os, w' = Sort.grow (w.drewN q) os := by
  have mixed : Tryz.prog.follows .mixedOrders = true := by kernel_rfl
  go_enter Tryz.func45, Tryz.ntmps45
  have c1 : ((w.alloc (Obj.cells #[Value.int IntKind.i64 p.fst, Value.int IntKind.i64 p.snd] 52)).alloc (Obj.cells #[Value.int IntKind.i64 q.fst, Value.int IntKind.i64 q.snd] 52)) = Sort.grow w #[Obj.cells #[Value.int IntKind.i64 p.fst, Value.int IntKind.i64 p.snd] 52, Obj.cells #[Value.int IntKind.i64 q.fst, Value.int IntKind.i64 q.snd] 52] := by
    show ({ w with heap := (w.heap.push _).push _ } : World) = { w with heap := w.heap ++ _ }
    congr 1
  go_wp2

  generalize hW : Sort.grow w _ = W
  have x0 : W.cell? ⟨w.heap.size, 0, none⟩ = some (.int .i64 p.1) := by subst hW; simp [Sort.grow, World.cell?]
  have x1 : W.cell? ⟨w.heap.size, 1, none⟩ = some (.int .i64 p.2) := by subst hW; simp [Sort.grow, World.cell?]
  have y0 : W.cell? ⟨w.heap.size + 1, 0, none⟩ = some (.int .i64 q.1) := by subst hW; simp [Sort.grow, World.cell?]
  have y1 : W.cell? ⟨w.heap.size + 1, 1, none⟩ = some (.int .i64 q.2) := by subst hW; simp [Sort.grow, World.cell?]
  go_quiet (first | (go_at_call 46; exact Calls.quiet_of (kCmpRow p.1 p.2 q.1 q.2 w.heap.size (w.heap.size + 1) _ x0 x1 y0 y1)))
  go_wp2
  go_ret
  exact ⟨rfl, nq, _, by rw [← hW]; rfl⟩
end Go.Proofs

/- Nothing to delete; the test for the empty text: by the kit's own walk. -/
namespace Go.Proofs
open Go.Lib
theorem kDelNil (fv : Value) (w : World) : Calls Tryz.prog 30 #[.slice none 0 0, fv] w fun e w' => e = .returned (.slice none 0 0) ∧ w' = w := by
  go_enter Tryz.func30, Tryz.ntmps30
  go_wp2_with (go_at_call 64; refine (AnyE.slices_IndexFunc_empty (P := Tryz.prog) (ρ := Tryz.delK_ren) { Tryz.delK with } none 0 fv _).mono ?_; rintro e w' ⟨rfl, hw⟩; rw [hw])
  go_ret
  exact ⟨rfl, rfl⟩
theorem kEmpty (x : List UInt8) (w : World) : Calls Tryz.prog 32 #[encStr x] w fun e w' => e = .returned (.bool (decide (x = []))) ∧ w' = w := by
  show Calls Tryz.prog 32 #[.string ⟨x.toArray⟩] w _
  go_enter Tryz.func32, Tryz.ntmps32
  go_wp2
  go_ret
  refine ⟨?_, rfl⟩
  cases x <;> simp
end Go.Proofs

/- Rows of one's own held by a map; pairs sorted. -/
namespace Lg
open Go
section
variable {κ α : Type} [DecidableEq κ]
/-- Keys, the rows that are held under them, what these hold. -/
abbrev RowsL (κ α : Type) := List (κ × Value × List α)
def rowsO (e : Nat) (R : Rp α) (q : RowsL κ α) : SP := stars (q.map fun t => own e R t.2.1 t.2.2)
def rval (q : RowsL κ α) (k : κ) : Value × List α := match q with
  | [] => (.slice none 0 0, [])
  | (a, v, xs) :: q => if k = a then (v, xs) else rval q k
def rmv (q : RowsL κ α) (k : κ) : RowsL κ α := match q with
  | [] => []
  | (a, v, xs) :: q => if k = a then q else (a, v, xs) :: rmv q k
def rput (q : RowsL κ α) (k : κ) (v : Value) (xs : List α) : RowsL κ α := match q with
  | [] => [(k, v, xs)]
  | (a, v0, x0) :: q => if k = a then (a, v, xs) :: q else (a, v0, x0) :: rput q k v xs
abbrev vals (q : RowsL κ α) : List (κ × Value) := q.map fun t => (t.1, t.2.1)
theorem vals_get (k : κ) : ∀ q : RowsL κ α, (mget (vals q) k).getD (.slice none 0 0) = (rval q k).1
  | [] => rfl
  | (a, v, xs) :: q => by
    by_cases h : k = a
    · simp [mget, rval, h]
    · simp only [List.map_cons, mget, rval, if_neg h]; exact vals_get k q
theorem vals_put (k : κ) (v : Value) (ys : List α) : ∀ q : RowsL κ α, mput (vals q) k v = vals (rput q k v ys)
  | [] => rfl
  | (a, v0, x0) :: q => by
    by_cases h : k = a
    · simp [mput, rput, h]
    · simp only [List.map_cons, mput, rput, if_neg h]; rw [vals_put k v ys q]
theorem mput_mput {β : Type} (k : κ) (a b : β) : ∀ m : List (κ × β), mput (mput m k a) k b = mput m k b
  | [] => by simp [mput]
  | (c, x) :: m => by
    by_cases h : k = c
    · simp [mput, h]
    · simp [mput, h, mput_mput k a b m]
theorem rval_rput (k j : κ) (v : Value) (ys : List α) : ∀ q : RowsL κ α, (rval (rput q k v ys) j).2 = if j = k then ys else (rval q j).2
  | [] => by by_cases h : j = k <;> simp [rput, rval, h]
  | (a, v0, x0) :: q => by
    by_cases h : k = a
    · subst h
      by_cases h2 : j = k <;> simp [rput, rval, h2]
    · by_cases h2 : j = a
      · subst h2
        have : ¬ j = k := fun e => h e.symm
        simp [rput, rval, h, this]
      · simp only [rput, if_neg h, rval, if_neg h2]; exact rval_rput k j v ys q
variable {e : Nat} {R : Rp α} {L : List SP}
theorem LSub.head {A : SP} {L L' : List SP} (h : LSub L L') : LSub (A :: L) (A :: L') := LSub.cons (Sel.take (Sel.none _)) SPs.rfl h
theorem LSub.swap {A B : SP} {L : List SP} : LSub (A :: B :: L) (B :: A :: L) := LSub.cons (Sel.skip (Sel.take (Sel.none _))) SPs.rfl (LSub.cons (Sel.take (Sel.none _)) SPs.rfl LSub.rfl)
theorem LSub.pop {A : SP} {B L : List SP} : LSub (Lg.stars (A :: B) :: L) (A :: Lg.stars B :: L) := fun h m ⟨m1, m2, d, e, ⟨m3, m4, d3, e3, ha, hb⟩, hl⟩ => by
  subst e; subst e3
  have dd := PH.disj_join.1 d
  exact ⟨m3, m4.join m2, PH.disj_join'.2 ⟨d3, dd.1⟩, PH.join_assoc _ _ _, ha, m4, m2, dd.2, _root_.rfl, hb, hl⟩
theorem rows_split (k : κ) : ∀ {q : RowsL κ α} {L : List SP}, LSub (rowsO e R q :: L) (own e R (rval q k).1 (rval q k).2 :: rowsO e R (rmv q k) :: L)
  | [], L => LSub.nilown
  | (a, v, xs) :: q, L => by
    by_cases h : k = a
    · simp only [rval, rmv, if_pos h]; exact LSub.pop
    · simp only [rval, rmv, if_neg h]
      exact LSub.trans LSub.pop (LSub.trans (LSub.head (rows_split k)) (LSub.trans LSub.swap (LSub.head LSub.push)))
theorem rows_join (k : κ) (v : Value) (ys : List α) : ∀ {q : RowsL κ α} {L : List SP}, LSub (own e R v ys :: rowsO e R (rmv q k) :: L) (rowsO e R (rput q k v ys) :: L)
  | [], L => LSub.push
  | (a, v0, x0) :: q, L => by
    by_cases h : k = a
    · simp only [rput, rmv, if_pos h]; exact LSub.push
    · simp only [rput, rmv, if_neg h]
      exact LSub.trans (LSub.head LSub.pop) (LSub.trans LSub.swap (LSub.trans (LSub.head (rows_join k v ys)) LSub.push))
theorem rows_nil {L : List SP} : LSub L (rowsO e R ([] : RowsL κ α) :: L) := fun h m p => ⟨PH.emp, m, PH.disj_symm (PH.disj_emp _), (PH.emp_join _).symm, _root_.rfl, p⟩
variable {kv : κ → Value}
variable {C : Cx} {E : Env} {d : Option Nat} {ty : Nat} {pos : String} {af : Array Edge} {g : Option (Nat × Bool)}
theorem step_lookupR {T kt el : Nat} {x y : Operand} {v : Value} {q : RowsL κ α} {S : List SP} {k : κ} (K : KeyT C.P kt kv) (hu : C.P.underlying T = some (.map kt el)) (hz : ∀ w, (zeroValue el).run C.P w = .ok (.slice none 0 0) w)
    (hx : Sub (opTy E x) (tV v)) (hy : Sub (opTy E y) (tV (kv k))) (sel : Sel L [mapOwn kv rV v (vals q)] S) : Step1 C ⟨d, .lookup T x y false, ty, pos, af, g⟩ E L (rV.ty (rval q k).1) := by
  have := step_lookup (C := C) (d := d) (ty := ty) (pos := pos) (af := af) (g := g) (R := rV) (z := .slice none 0 0) K hu hz (fun _ => ⟨rfl, rfl⟩) hx hy sel
  rw [vals_get] at this
  exact this
theorem step_mapEntryR {T kt el : Nat} {x y : Operand} {v : Value} {q : RowsL κ α} {S : List SP} {k : κ} (K : KeyT C.P kt kv) (hu : C.P.underlying T = some (.map kt el)) (hz : ∀ w, (zeroValue el).run C.P w = .ok (.slice none 0 0) w)
    (hx : Sub (opTy E x) (tV v)) (hy : Sub (opTy E y) (tV (kv k))) (sel : Sel L [mapOwn kv rV v (vals q)] S) :
    Step (X := { n : Nat // fi k (mput (vals q) k (rval q k).1) = some n }) C ⟨d, .mapEntry T x y, ty, pos, af, g⟩ E L (fun n => tTup [rV.ty (rval q k).1, tV (.int .i64 (n.1 : Int))]) (fun _ => mapOwn kv rV v (mput (vals q) k (rval q k).1) :: S) := by
  have := step_mapEntry (C := C) (d := d) (ty := ty) (pos := pos) (af := af) (g := g) (R := rV) (z := .slice none 0 0) K hu hz (fun _ => ⟨rfl, rfl⟩) hx hy sel
  rw [vals_get] at this
  exact this
end
/-! Pairs sorted. -/
abbrev encP (p : Int × Int) : List Value := [.int .i64 p.1, .int .i64 p.2]
theorem relAll_pair {h : PH} : ∀ {xs : List (Int × Int)} {cs : List Value}, relAll rA2 h xs cs ↔ cs = xs.flatMap encP
  | [], cs => Iff.rfl
  | x :: xs, cs => by
    constructor
    · rintro ⟨c1, c2, rfl, r1, r2⟩
      obtain ⟨d0, _, rfl, r0, d1, _, rfl, r1, rz⟩ := r1
      have r0 : d0 = [.int .i64 x.1] := r0
      have r1 : d1 = [.int .i64 x.2] := r1
      subst r0 r1
      rw [relAll_pair.1 r2, show _ = [] from rz]; rfl
    · rintro rfl
      exact ⟨encP x, xs.flatMap encP, rfl, ⟨[.int .i64 x.1], _, rfl, rfl, [.int .i64 x.2], _, rfl, rfl, rfl⟩, relAll_pair.2 rfl⟩
theorem flatMap_get : ∀ (xs : List (Int × Int)) (t : Nat), t < xs.length * 2 → (xs.flatMap encP)[t]? = some ((encP (xs[t / 2]!))[t % 2]!)
  | [], t, h => by simp at h
  | x :: xs, t, h => by
    match t with
    | 0 => rfl
    | 1 => rfl
    | t + 2 =>
      have ih := flatMap_get xs t (by simp only [List.length_cons] at h; omega)
      have e1 : (t + 2) / 2 = t / 2 + 1 := by omega
      have e2 : (t + 2) % 2 = t % 2 := by omega
      rw [e1, e2]
      show (xs.flatMap encP)[t]? = _
      rw [ih]; rfl
theorem flatMap_len (xs : List (Int × Int)) : (xs.flatMap encP).length = xs.length * 2 := by
  induction xs with
  | nil => rfl
  | cons x xs ih => rw [List.flatMap_cons, List.length_append, ih, List.length_cons]; simp; omega
theorem lt_pcmp (p q : Int × Int) : Go.Proofs.ltOf Go.Proofs.pcmp p q = true ↔ (p.1 < q.1 ∨ (p.1 = q.1 ∧ p.2 < q.2)) := by
  unfold Go.Proofs.ltOf Go.Proofs.pcmp Lib.compareInt
  rw [decide_eq_true_eq]
  (repeat' split) <;> omega
theorem ltf_pcmp (p q : Int × Int) : Go.Proofs.ltOf Go.Proofs.pcmp p q = false ↔ ¬ (p.1 < q.1 ∨ (p.1 = q.1 ∧ p.2 < q.2)) := by
  rw [← lt_pcmp, Bool.not_eq_true]
theorem swo_pcmp : Go.Sort.SWO (Go.Proofs.ltOf Go.Proofs.pcmp) where
  irrefl x := by rw [ltf_pcmp]; omega
  trans x y z h1 h2 := by rw [lt_pcmp] at *; omega
  ntrans x y z h1 h2 := by rw [ltf_pcmp] at *; omega
def sortP (xs : List (Int × Int)) : List (Int × Int) := xs.mergeSort fun x y => !(Go.Proofs.ltOf Go.Proofs.pcmp) y x
theorem pairSort_spec (v : Value) (xs : List (Int × Int)) (hn : xs.length ≤ 1000000000) :
    Spec (X := Unit) Go.Proofs.Tryz.prog 44 [rV.ty v, tV (.func (.func 45) #[] #[])] [own 52 rA2 v xs] (fun _ => tTup []) (fun _ => [own 52 rA2 v (sortP xs)]) := by
  intro vs h m r w ha sp st
  match vs, ha with
  | [u1, u2], ⟨a1, a2, _⟩ =>
  obtain ⟨e1, _⟩ := a1
  have e2 : u2 = .func (.func 45) #[] #[] := a2
  subst e1; subst e2
  obtain ⟨m1, m2, d12, rfl, ho, e3⟩ := st
  rw [stars_nil] at e3; subst e3
  rw [PH.join_emp] at sp
  have none_case : ∀ (p : Option Addr) (cap : Nat), u1 = .slice p 0 cap → xs = [] → Calls Go.Proofs.Tryz.prog 44 [u1, .func (.func 45) #[] #[]].toArray w (Ret (X := Unit) h w r (fun _ => tTup []) (fun _ => [own 52 rA2 u1 (sortP xs)])) := by
    intro p cap hu hx
    subst hu; subst hx
    refine (Go.Proofs.AnyF.slices_SortFunc_none (P := Go.Proofs.Tryz.prog) (ρ := Go.Proofs.Tryz.sortPK_ren) Go.Proofs.Tryz.sortPK p cap _ w).mono ?_
    rintro e' w' ⟨rfl, rfl⟩
    exact ⟨(), _, h, m1, rfl, HL.refl, sp, ⟨m1, PH.emp, PH.disj_emp _, (PH.join_emp _).symm, by rw [show sortP [] = [] by simp [sortP]]; exact ho, rfl⟩, ⟨[], rfl, trivial⟩⟩
  rcases ho with ⟨rfl, rfl, rfl⟩ | ⟨g, cap, cur, rfl, rfl, hl, hm, hs, hr⟩
  · exact none_case none 0 rfl rfl
  · by_cases hx : xs = []
    · subst hx; exact none_case _ cap rfl rfl
    · have hk2 : rA2.k = 2 := rfl
      rw [hk2] at hs hr
      rw [relAll_pair] at hr
      have hb := sp.mw g _ (PH.one_same _ _)
      have hlen : xs.toArray.size = xs.length := by simp
      have hfl : ∀ (ys : List (Int × Int)) t, t < ys.length * 2 → (Sort.flatK encP 2 ys.toArray)[t]! = (encP (ys[t / 2]!))[t % 2]! := fun ys t ht => by
        rw [Sort.get_flatK _ _ _ t (by simpa using ht)]
        simp
      have hH : Sort.HoldsK encP 2 w g 0 xs.toArray := fun j hj => ⟨by
        rw [Sort.size_flatK, hlen] at hj
        rw [Nat.zero_add, hfl xs j hj]; simp only [World.cell?, hb]
        have : (cur.toList.take (xs.length * 2))[j]? = some ((encP (xs[j / 2]!))[j % 2]!) := by rw [hr]; exact flatMap_get xs j hj
        rw [List.getElem?_take, if_pos hj] at this
        simpa using this, by simp [World.frozen?, hb]⟩
      have hblk : g < w.heap.size := (Array.getElem?_eq_some_iff.1 hb).1
      have hS := Go.Proofs.AnyQ.slices_SortFunc_total (ρ := Go.Proofs.Tryz.sortPK_ren) Go.Proofs.Tryz.sortPK 2 (fun w => Go.Proofs.Tryz.isAgg52 w) (fun w => Go.Proofs.Tryz.sizeOf52 w) encP (fun _ => rfl) (fun x v hv => by
          simp only [encP, List.mem_cons, List.not_mem_nil, or_false] at hv
          rcases hv with rfl | rfl <;> rfl) Go.Proofs.pcmp swo_pcmp 45 #[] g 0 cap xs.toArray w Go.Proofs.Tryz.call45
        (fun n os dk _ x y => Go.Proofs.kPair x y _) hH hblk (by rw [hlen]; omega) (fun x y h1 h2 => by
          rw [ltf_pcmp] at h1 h2
          exact Prod.ext (by omega) (by omega))
      rw [hlen] at hS
      refine hS.mono ?_
      rintro e' w' ⟨rfl, n, os, rfl⟩
      have hso : (xs.toArray.toList.mergeSort fun x y => !(Go.Proofs.ltOf Go.Proofs.pcmp) y x) = sortP xs := rfl
      rw [hso]
      have hsl : (sortP xs).length = xs.length := by simp [sortP]
      generalize hys : sortP xs = ys at hsl
      have hfs : (Sort.flatK encP 2 ys.toArray).size = xs.length * 2 := by rw [Sort.size_flatK]; simp [hsl]
      have hw' : Go.Proofs.sortWorldK encP 2 w g 0 n ys.toArray os = Go.Proofs.sortWorld id w g 0 n (Sort.flatK encP 2 ys.toArray) os := rfl
      rw [hw']
      refine ⟨(), _, h, PH.one g (.cells (Sort.putCells id 0 (Sort.flatK encP 2 ys.toArray) cur) 52 (0, 0)), rfl, HL.same ⟨rfl, rfl, rfl⟩, ?_, ⟨_, PH.emp, PH.disj_emp _, (PH.join_emp _).symm, .inr ⟨g, cap, _, by rw [hsl], rfl, by omega, hm, ?_, ?_⟩, rfl⟩, ⟨[], rfl, trivial⟩⟩
      · have sp' : Sep h ((PH.one g (.cells cur 52 (0, 0))).join PH.emp) r w := by rw [PH.join_emp]; exact sp
        have := Sep.write (o' := .cells (Sort.putCells id 0 (Sort.flatK encP 2 ys.toArray) cur) 52 (0, 0)) (PH.disj_emp _) sp' (fun b hne' hb' => sortWorld_other (enc := id) (off := 0) (m := n) (dk := Sort.flatK encP 2 ys.toArray) (os := os) hb' hne') (sortWorld_row hb)
        rw [PH.join_emp] at this; exact this
      · simp [Sort.putCells, hs, hk2]
      · rw [hk2, relAll_pair]
        apply List.ext_getElem?
        intro j
        rw [List.getElem?_take]
        split
        · rename_i hj
          have hcs : cur.size = cap * 2 := hs
          have hjc : j < cur.size := by omega
          have hjd : j < (Sort.flatK encP 2 ys.toArray).size := by omega
          rw [flatMap_get ys j hj, ← hfl ys j hj]
          simp [Sort.putCells, hjc, hfs, show j < xs.length * 2 by omega]
        · rw [List.getElem?_eq_none (by rw [flatMap_len]; omega)]
end Lg
