/- Functions of Go's library by the shelf's contracts, laid at this program, in the form that the walks meet: strings.Split, strings.Join, strconv.Itoa, strconv.Atoi. Each says its bounds in its own '.f'. -/
import Derived.Ground.NamesProg
import Derived.Shelf.Strings.Split
import Derived.Shelf.Strings.OnBuilder
import Derived.Shelf.Strconv.Itoa3
import Derived.Shelf.Strconv.Atoi
import Derived.WalkSmall
import Derived.Test.YtjelgpmhbaiipaaGreatDoorLPAs4
namespace Go.Proofs
set_option linter.unusedVariables false
set_option linter.unusedSimpArgs false
open Go.Shelf Go.RowKit
theorem Tryz.lf_ {α : Type} {a : Option α} {b c : α} (h : a = some b) (e : b = c) : a = some c := h.trans (congrArg some e)
def Tryz.lSplit_ren : Go.Shelf.Ren := ⟨fun | 146 => 10 | 221 => 27 | 268 => 54 | 138 => 55 | 143 => 56 | 195 => 72 | 197 => 73 | 218 => 74 | 219 => 75 | 260 => 85 | 217 => 86 | 225 => 87 | 224 => 88 | 267 => 89 | 266 => 101 | 314 => 102 | n => n, fun | 9 => 9 | 31 => 27 | 3 => 3 | 4 => 4 | 0 => 0 | 105 => 98 | 21 => 21 | 5 => 5 | 46 => 110 | 119 => 124 | 139 => 127 | 138 => 126 | 146 => 129 | 51 => 128 | n => n, fun | 1 => 0 | 3 => 1 | 4 => 2 | n => n⟩
theorem Tryz.lSplit : Go.Proofs.Lays.n146 Tryz.prog Tryz.lSplit_ren := {
 mixed := by kernel_rfl,
 f138 := Tryz.lf_ Tryz.func55 (by kernel_rfl),
 f143 := Tryz.lf_ Tryz.func56 (by kernel_rfl),
 f146 := Tryz.lf_ Tryz.func10 (by kernel_rfl),
 f195 := Tryz.lf_ Tryz.func72 (by kernel_rfl),
 f197 := Tryz.lf_ Tryz.func73 (by kernel_rfl),
 f217 := Tryz.lf_ Tryz.func86 (by kernel_rfl),
 f218 := Tryz.lf_ Tryz.func74 (by kernel_rfl),
 f219 := Tryz.lf_ Tryz.func75 (by kernel_rfl),
 f221 := Tryz.lf_ Tryz.func27 (by kernel_rfl),
 f224 := Tryz.lf_ Tryz.func88 (by kernel_rfl),
 f225 := Tryz.lf_ Tryz.func87 (by kernel_rfl),
 f260 := Tryz.lf_ Tryz.func85 (by kernel_rfl),
 f266 := Tryz.lf_ Tryz.func101 (by kernel_rfl),
 f267 := Tryz.lf_ Tryz.func89 (by kernel_rfl),
 f268 := Tryz.lf_ Tryz.func54 (by kernel_rfl),
 f314 := Tryz.lf_ Tryz.func102 (by kernel_rfl),
 t0 := Tryz.underlying0,
 a0 := Tryz.isAgg0,
 z0 := Tryz.sizeOf0,
 v0 := Tryz.zeroValue0,
 t3 := Tryz.underlying3,
 a3 := Tryz.isAgg3,
 z3 := Tryz.sizeOf3,
 v3 := Tryz.zeroValue3,
 t4 := Tryz.underlying4,
 a4 := Tryz.isAgg4,
 z4 := Tryz.sizeOf4,
 v4 := Tryz.zeroValue4,
 t5 := Tryz.underlying5,
 a5 := Tryz.isAgg5,
 z5 := Tryz.sizeOf5,
 v5 := Tryz.zeroValue5,
 t9 := Tryz.underlying9,
 a9 := Tryz.isAgg9,
 z9 := Tryz.sizeOf9,
 v9 := Tryz.zeroValue9,
 t21 := Tryz.underlying21,
 a21 := Tryz.isAgg21,
 z21 := Tryz.sizeOf21,
 v21 := Tryz.zeroValue21,
 t31 := Tryz.underlying27,
 a31 := Tryz.isAgg27,
 z31 := Tryz.sizeOf27,
 v31 := Tryz.zeroValue27,
 t46 := Tryz.underlying110,
 a46 := Tryz.isAgg110,
 z46 := Tryz.sizeOf110,
 v46 := Tryz.zeroValue110,
 t51 := Tryz.underlying128,
 a51 := Tryz.isAgg128,
 z51 := Tryz.sizeOf128,
 v51 := Tryz.zeroValue128,
 t105 := Tryz.underlying98,
 a105 := Tryz.isAgg98,
 z105 := Tryz.sizeOf98,
 v105 := Tryz.zeroValue98,
 t119 := Tryz.underlying124,
 a119 := Tryz.isAgg124,
 z119 := Tryz.sizeOf124,
 t138 := Tryz.underlying126,
 a138 := Tryz.isAgg126,
 z138 := Tryz.sizeOf126,
 v138 := Tryz.zeroValue126,
 t139 := Tryz.underlying127,
 a139 := Tryz.isAgg127,
 z139 := Tryz.sizeOf127,
 v139 := Tryz.zeroValue127,
 t146 := Tryz.underlying129,
 a146 := Tryz.isAgg129,
 z146 := Tryz.sizeOf129,
 v146 := Tryz.zeroValue129,
 g1 := by kernel_rfl,
 g3 := by kernel_rfl,
 g4 := by kernel_rfl }
def Tryz.lJoin_ren : Go.Shelf.Ren := ⟨fun | 156 => 59 | 165 => 79 | 166 => 80 | 169 => 81 | 240 => 90 | 241 => 91 | 276 => 103 | 277 => 104 | n => n, fun | 31 => 27 | 9 => 9 | 3 => 3 | 4 => 4 | 0 => 0 | 20 => 20 | 72 => 105 | 76 => 93 | 70 => 103 | 37 => 24 | 75 => 92 | 127 => 111 | 164 => 131 | 5 => 5 | 80 => 107 | n => n, fun | n => n⟩
theorem Tryz.lJoin : Go.Proofs.Lays.n156 Tryz.prog Tryz.lJoin_ren := {
 mixed := by kernel_rfl,
 f156 := Tryz.lf_ Tryz.func59 (by kernel_rfl),
 f165 := Tryz.lf_ Tryz.func79 (by kernel_rfl),
 f166 := Tryz.lf_ Tryz.func80 (by kernel_rfl),
 f169 := Tryz.lf_ Tryz.func81 (by kernel_rfl),
 f240 := Tryz.lf_ Tryz.func90 (by kernel_rfl),
 f241 := Tryz.lf_ Tryz.func91 (by kernel_rfl),
 f276 := Tryz.lf_ Tryz.func103 (by kernel_rfl),
 f277 := Tryz.lf_ Tryz.func104 (by kernel_rfl),
 t0 := Tryz.underlying0,
 a0 := Tryz.isAgg0,
 z0 := Tryz.sizeOf0,
 v0 := Tryz.zeroValue0,
 t3 := Tryz.underlying3,
 a3 := Tryz.isAgg3,
 z3 := Tryz.sizeOf3,
 v3 := Tryz.zeroValue3,
 t4 := Tryz.underlying4,
 a4 := Tryz.isAgg4,
 z4 := Tryz.sizeOf4,
 v4 := Tryz.zeroValue4,
 t9 := Tryz.underlying9,
 a9 := Tryz.isAgg9,
 z9 := Tryz.sizeOf9,
 v9 := Tryz.zeroValue9,
 t20 := Tryz.underlying20,
 a20 := Tryz.isAgg20,
 z20 := Tryz.sizeOf20,
 v20 := Tryz.zeroValue20,
 t31 := Tryz.underlying27,
 a31 := Tryz.isAgg27,
 z31 := Tryz.sizeOf27,
 v31 := Tryz.zeroValue27,
 t37 := Tryz.underlying24,
 a37 := Tryz.isAgg24,
 z37 := Tryz.sizeOf24,
 v37 := Tryz.zeroValue24,
 t70 := Tryz.underlying103,
 a70 := Tryz.isAgg103,
 z70 := Tryz.sizeOf103,
 v70 := Tryz.zeroValue103,
 t72 := Tryz.underlying105,
 a72 := Tryz.isAgg105,
 z72 := Tryz.sizeOf105,
 v72 := Tryz.zeroValue105,
 t75 := Tryz.underlying92,
 a75 := Tryz.isAgg92,
 z75 := Tryz.sizeOf92,
 v75 := Tryz.zeroValue92,
 t76 := Tryz.underlying93,
 a76 := Tryz.isAgg93,
 z76 := Tryz.sizeOf93,
 v76 := Tryz.zeroValue93,
 t127 := Tryz.underlying111,
 a127 := Tryz.isAgg111,
 z127 := Tryz.sizeOf111,
 v127 := Tryz.zeroValue111,
 t164 := Tryz.underlying131,
 a164 := Tryz.isAgg131,
 z164 := Tryz.sizeOf131,
 v164 := Tryz.zeroValue131 }
def Tryz.lItoa_ren : Go.Shelf.Ren := ⟨fun | 171 => 41 | 243 => 64 | 246 => 84 | 283 => 97 | 284 => 98 | 285 => 99 | 286 => 100 | 129 => 109 | 317 => 108 | 318 => 110 | 319 => 111 | 320 => 112 | 337 => 115 | 338 => 116 | n => n, fun | 3 => 3 | 9 => 9 | 2 => 2 | 4 => 4 | 171 => 118 | 0 => 0 | 53 => 119 | 37 => 24 | 5 => 5 | 173 => 122 | 212 => 140 | 51 => 128 | 20 => 20 | 213 => 141 | 46 => 110 | 232 => 148 | 233 => 149 | n => n, fun | 17 => 5 | 18 => 6 | 19 => 7 | n => n⟩
theorem Tryz.lItoa : Go.Proofs.LaysM.n171 Tryz.prog Tryz.lItoa_ren := {
 mixed := by kernel_rfl,
 f129 := Tryz.lf_ Tryz.func109 (by kernel_rfl),
 f171 := Tryz.lf_ Tryz.func41 (by kernel_rfl),
 f243 := Tryz.lf_ Tryz.func64 (by kernel_rfl),
 f246 := Tryz.lf_ Tryz.func84 (by kernel_rfl),
 f283 := Tryz.lf_ Tryz.func97 (by kernel_rfl),
 f284 := Tryz.lf_ Tryz.func98 (by kernel_rfl),
 f285 := Tryz.lf_ Tryz.func99 (by kernel_rfl),
 f286 := Tryz.lf_ Tryz.func100 (by kernel_rfl),
 f317 := Tryz.lf_ Tryz.func108 (by kernel_rfl),
 f318 := Tryz.lf_ Tryz.func110 (by kernel_rfl),
 f319 := Tryz.lf_ Tryz.func111 (by kernel_rfl),
 f320 := Tryz.lf_ Tryz.func112 (by kernel_rfl),
 f337 := Tryz.lf_ Tryz.func115 (by kernel_rfl),
 f338 := Tryz.lf_ Tryz.func116 (by kernel_rfl),
 t0 := Tryz.underlying0,
 a0 := Tryz.isAgg0,
 z0 := Tryz.sizeOf0,
 v0 := Tryz.zeroValue0,
 t2 := Tryz.underlying2,
 a2 := Tryz.isAgg2,
 z2 := Tryz.sizeOf2,
 v2 := Tryz.zeroValue2,
 t3 := Tryz.underlying3,
 a3 := Tryz.isAgg3,
 z3 := Tryz.sizeOf3,
 v3 := Tryz.zeroValue3,
 t4 := Tryz.underlying4,
 a4 := Tryz.isAgg4,
 z4 := Tryz.sizeOf4,
 v4 := Tryz.zeroValue4,
 t5 := Tryz.underlying5,
 a5 := Tryz.isAgg5,
 z5 := Tryz.sizeOf5,
 v5 := Tryz.zeroValue5,
 t9 := Tryz.underlying9,
 a9 := Tryz.isAgg9,
 z9 := Tryz.sizeOf9,
 v9 := Tryz.zeroValue9,
 t20 := Tryz.underlying20,
 a20 := Tryz.isAgg20,
 z20 := Tryz.sizeOf20,
 v20 := Tryz.zeroValue20,
 t37 := Tryz.underlying24,
 a37 := Tryz.isAgg24,
 z37 := Tryz.sizeOf24,
 v37 := Tryz.zeroValue24,
 t46 := Tryz.underlying110,
 a46 := Tryz.isAgg110,
 z46 := Tryz.sizeOf110,
 v46 := Tryz.zeroValue110,
 t51 := Tryz.underlying128,
 a51 := Tryz.isAgg128,
 z51 := Tryz.sizeOf128,
 v51 := Tryz.zeroValue128,
 t53 := Tryz.underlying119,
 a53 := Tryz.isAgg119,
 z53 := Tryz.sizeOf119,
 v53 := Tryz.zeroValue119,
 t171 := Tryz.underlying118,
 a171 := Tryz.isAgg118,
 z171 := Tryz.sizeOf118,
 v171 := Tryz.zeroValue118,
 t173 := Tryz.underlying122,
 a173 := Tryz.isAgg122,
 z173 := Tryz.sizeOf122,
 v173 := Tryz.zeroValue122,
 t212 := Tryz.underlying140,
 a212 := Tryz.isAgg140,
 z212 := Tryz.sizeOf140,
 v212 := Tryz.zeroValue140,
 t213 := Tryz.underlying141,
 a213 := Tryz.isAgg141,
 z213 := Tryz.sizeOf141,
 t232 := Tryz.underlying148,
 a232 := Tryz.isAgg148,
 z232 := Tryz.sizeOf148,
 v232 := Tryz.zeroValue148,
 t233 := Tryz.underlying149,
 a233 := Tryz.isAgg149,
 z233 := Tryz.sizeOf149,
 v233 := Tryz.zeroValue149,
 g17 := by kernel_rfl,
 g18 := by kernel_rfl,
 g19 := by kernel_rfl,
 i0 := by kernel_rfl,
 i2 := by kernel_rfl,
 i3 := by kernel_rfl,
 i4 := by kernel_rfl,
 i5 := by kernel_rfl,
 i9 := by kernel_rfl,
 i20 := by kernel_rfl,
 i37 := by kernel_rfl,
 i46 := by kernel_rfl,
 i51 := by kernel_rfl,
 i53 := by kernel_rfl,
 i171 := by kernel_rfl,
 i173 := by kernel_rfl,
 i212 := by kernel_rfl,
 i232 := by kernel_rfl,
 i233 := by kernel_rfl,
 m17 := by kernel_rfl,
 m18 := by kernel_rfl,
 m19 := by kernel_rfl }
def Tryz.lAtoi_ren : Go.Shelf.Ren := ⟨fun | 172 => 63 | 244 => 82 | 245 => 83 | 247 => 92 | 279 => 93 | 280 => 94 | 281 => 95 | 282 => 96 | 287 => 105 | 316 => 106 | 171 => 41 | 205 => 107 | 321 => 113 | 322 => 114 | 243 => 64 | 246 => 84 | 283 => 97 | 284 => 98 | 285 => 99 | 286 => 100 | 129 => 109 | 317 => 108 | 318 => 110 | 319 => 111 | 320 => 112 | 337 => 115 | 338 => 116 | n => n, fun | 9 => 9 | 3 => 3 | 75 => 92 | 76 => 93 | 4 => 4 | 5 => 5 | 167 => 112 | 37 => 24 | 0 => 0 | 85 => 113 | 2 => 2 | 168 => 115 | 53 => 119 | 175 => 134 | 46 => 110 | 210 => 137 | 127 => 111 | 145 => 146 | 143 => 144 | 21 => 21 | 171 => 118 | 173 => 122 | 212 => 140 | 51 => 128 | 20 => 20 | 213 => 141 | 232 => 148 | 233 => 149 | 80 => 107 | n => n, fun | 15 => 3 | 16 => 4 | 17 => 5 | 18 => 6 | 19 => 7 | n => n⟩
theorem Tryz.lAtoi : Go.Proofs.Lays.n172 Tryz.prog Tryz.lAtoi_ren := {
 mixed := by kernel_rfl,
 f129 := Tryz.lf_ Tryz.func109 (by kernel_rfl),
 f171 := Tryz.lf_ Tryz.func41 (by kernel_rfl),
 f172 := Tryz.lf_ Tryz.func63 (by kernel_rfl),
 f205 := Tryz.lf_ Tryz.func107 (by kernel_rfl),
 f243 := Tryz.lf_ Tryz.func64 (by kernel_rfl),
 f244 := Tryz.lf_ Tryz.func82 (by kernel_rfl),
 f245 := Tryz.lf_ Tryz.func83 (by kernel_rfl),
 f246 := Tryz.lf_ Tryz.func84 (by kernel_rfl),
 f247 := Tryz.lf_ Tryz.func92 (by kernel_rfl),
 f279 := Tryz.lf_ Tryz.func93 (by kernel_rfl),
 f280 := Tryz.lf_ Tryz.func94 (by kernel_rfl),
 f281 := Tryz.lf_ Tryz.func95 (by kernel_rfl),
 f282 := Tryz.lf_ Tryz.func96 (by kernel_rfl),
 f283 := Tryz.lf_ Tryz.func97 (by kernel_rfl),
 f284 := Tryz.lf_ Tryz.func98 (by kernel_rfl),
 f285 := Tryz.lf_ Tryz.func99 (by kernel_rfl),
 f286 := Tryz.lf_ Tryz.func100 (by kernel_rfl),
 f287 := Tryz.lf_ Tryz.func105 (by kernel_rfl),
 f316 := Tryz.lf_ Tryz.func106 (by kernel_rfl),
 f317 := Tryz.lf_ Tryz.func108 (by kernel_rfl),
 f318 := Tryz.lf_ Tryz.func110 (by kernel_rfl),
 f319 := Tryz.lf_ Tryz.func111 (by kernel_rfl),
 f320 := Tryz.lf_ Tryz.func112 (by kernel_rfl),
 f321 := Tryz.lf_ Tryz.func113 (by kernel_rfl),
 f322 := Tryz.lf_ Tryz.func114 (by kernel_rfl),
 f337 := Tryz.lf_ Tryz.func115 (by kernel_rfl),
 f338 := Tryz.lf_ Tryz.func116 (by kernel_rfl),
 t0 := Tryz.underlying0,
 a0 := Tryz.isAgg0,
 z0 := Tryz.sizeOf0,
 v0 := Tryz.zeroValue0,
 t2 := Tryz.underlying2,
 a2 := Tryz.isAgg2,
 z2 := Tryz.sizeOf2,
 v2 := Tryz.zeroValue2,
 t3 := Tryz.underlying3,
 a3 := Tryz.isAgg3,
 z3 := Tryz.sizeOf3,
 v3 := Tryz.zeroValue3,
 t4 := Tryz.underlying4,
 a4 := Tryz.isAgg4,
 z4 := Tryz.sizeOf4,
 v4 := Tryz.zeroValue4,
 t5 := Tryz.underlying5,
 a5 := Tryz.isAgg5,
 z5 := Tryz.sizeOf5,
 v5 := Tryz.zeroValue5,
 t9 := Tryz.underlying9,
 a9 := Tryz.isAgg9,
 z9 := Tryz.sizeOf9,
 v9 := Tryz.zeroValue9,
 t20 := Tryz.underlying20,
 a20 := Tryz.isAgg20,
 z20 := Tryz.sizeOf20,
 v20 := Tryz.zeroValue20,
 t21 := Tryz.underlying21,
 a21 := Tryz.isAgg21,
 z21 := Tryz.sizeOf21,
 v21 := Tryz.zeroValue21,
 t37 := Tryz.underlying24,
 a37 := Tryz.isAgg24,
 z37 := Tryz.sizeOf24,
 v37 := Tryz.zeroValue24,
 t46 := Tryz.underlying110,
 a46 := Tryz.isAgg110,
 z46 := Tryz.sizeOf110,
 v46 := Tryz.zeroValue110,
 t51 := Tryz.underlying128,
 a51 := Tryz.isAgg128,
 z51 := Tryz.sizeOf128,
 v51 := Tryz.zeroValue128,
 t53 := Tryz.underlying119,
 a53 := Tryz.isAgg119,
 z53 := Tryz.sizeOf119,
 v53 := Tryz.zeroValue119,
 t75 := Tryz.underlying92,
 a75 := Tryz.isAgg92,
 z75 := Tryz.sizeOf92,
 v75 := Tryz.zeroValue92,
 t76 := Tryz.underlying93,
 a76 := Tryz.isAgg93,
 z76 := Tryz.sizeOf93,
 v76 := Tryz.zeroValue93,
 t85 := Tryz.underlying113,
 a85 := Tryz.isAgg113,
 z85 := Tryz.sizeOf113,
 v85 := Tryz.zeroValue113,
 t127 := Tryz.underlying111,
 a127 := Tryz.isAgg111,
 z127 := Tryz.sizeOf111,
 v127 := Tryz.zeroValue111,
 t143 := Tryz.underlying144,
 a143 := Tryz.isAgg144,
 z143 := Tryz.sizeOf144,
 v143 := Tryz.zeroValue144,
 t145 := Tryz.underlying146,
 a145 := Tryz.isAgg146,
 z145 := Tryz.sizeOf146,
 v145 := Tryz.zeroValue146,
 t167 := Tryz.underlying112,
 a167 := Tryz.isAgg112,
 z167 := Tryz.sizeOf112,
 v167 := Tryz.zeroValue112,
 t168 := Tryz.underlying115,
 a168 := Tryz.isAgg115,
 z168 := Tryz.sizeOf115,
 v168 := Tryz.zeroValue115,
 t171 := Tryz.underlying118,
 a171 := Tryz.isAgg118,
 z171 := Tryz.sizeOf118,
 v171 := Tryz.zeroValue118,
 t173 := Tryz.underlying122,
 a173 := Tryz.isAgg122,
 z173 := Tryz.sizeOf122,
 v173 := Tryz.zeroValue122,
 t175 := Tryz.underlying134,
 a175 := Tryz.isAgg134,
 z175 := Tryz.sizeOf134,
 v175 := Tryz.zeroValue134,
 t210 := Tryz.underlying137,
 a210 := Tryz.isAgg137,
 z210 := Tryz.sizeOf137,
 v210 := Tryz.zeroValue137,
 t212 := Tryz.underlying140,
 a212 := Tryz.isAgg140,
 z212 := Tryz.sizeOf140,
 v212 := Tryz.zeroValue140,
 t213 := Tryz.underlying141,
 a213 := Tryz.isAgg141,
 z213 := Tryz.sizeOf141,
 t232 := Tryz.underlying148,
 a232 := Tryz.isAgg148,
 z232 := Tryz.sizeOf148,
 v232 := Tryz.zeroValue148,
 t233 := Tryz.underlying149,
 a233 := Tryz.isAgg149,
 z233 := Tryz.sizeOf149,
 v233 := Tryz.zeroValue149,
 g15 := by kernel_rfl,
 g16 := by kernel_rfl,
 g17 := by kernel_rfl,
 g18 := by kernel_rfl,
 g19 := by kernel_rfl }
theorem Tryz.lExtra : Builder.Extra Tryz.prog Tryz.lJoin_ren where
  sizeBuilder := by kernel_rfl
  liesBuilder := by kernel_rfl
  t5 := by kernel_rfl
  a5 := fun _ => by kernel_rfl
  z5 := fun _ => by kernel_rfl
  v5 := fun _ => by kernel_rfl
  infoByte := by kernel_rfl
  cellsByte := by kernel_rfl
  sizeByte := by kernel_rfl
  neB5 := by decide
end Go.Proofs
namespace Go.Proofs.YtjelgpmhbaiipaaGreatDoor.PA.Lb
open Go.Shelf Go.RowKit Go.Proofs.YtjelgpmhbaiipaaGreatDoor.PA Go.Proofs.YtjelgpmhbaiipaaGreatDoorW.PrintWords Go.Proofs.YtjelgpmhbaiipaaGreatDoorW.PrintLast Go.Proofs.YtjelgpmhbaiipaaGreatDoorW.PrintMore
set_option linter.unusedVariables false
set_option linter.unusedSimpArgs false
def WG (w : World) : Prop := Lib.TabIs Tryz.prog w "internal/strconv.uint64pow10" .u64 Lib.pow10Tab ∧ ∃ m, w.cell? ⟨0, 0, none⟩ = some (.int .i64 m)
theorem wg_below {w W : World} (h : WG w) (hb : Below w.heap.size w W) : WG W := by
  obtain ⟨h1, m, h2⟩ := h
  refine ⟨?_, m, (hb.cell (World.block_lt_of_cell? w _ h2)).trans h2⟩
  have hg : Tryz.prog.globalNamed "internal/strconv.uint64pow10" = some 5 := by kernel_rfl
  refine var?_below hb hg ?_ h1
  unfold Lib.TabIs World.var? at h1
  rw [hg] at h1
  simp only [Option.bind_some] at h1
  cases hx : w.heap[(5 : Nat)]? with
  | none => rw [hx] at h1; cases h1
  | some o => exact (Array.getElem?_eq_some_iff.1 hx).1
theorem wg {w W : World} (h : Aside0 (WG w)) (hb : Below w.heap.size w W := by
    repeat (first | (with_reducible first | exact HB.out | apply below_alloc | apply pw_below_drewN | apply below_drew1 | refine below_set ?_ (Aside0.out (by assumption)) | refine below_set ?_ (by assumption)) | exact HB.out)) : WG W := wg_below h.out hb
theorem below_grow {w : World} (k : Nat) (os : Array Obj) : Below w.heap.size w (Go.Sort.grow (w.drewN k) os) := by
  have h : (w.drewN k).grownBy (Go.Sort.grow (w.drewN k) os) none := ⟨rfl, rfl, rfl, by simp [Go.Sort.grow], fun i hi _ => Go.Sort.heap_grow_old _ _ hi⟩
  exact (pw_below_drewN (Below.refl _ _) k).grown h (Nat.le_refl _) (fun j hj => by cases hj)
def itoa.f (n : Int) : Option ByteArray := if -9223372036854775808 ≤ n ∧ n ≤ 9223372036854775807 then some ⟨(Lib.itoa n).toArray⟩ else none
theorem itoa.calls (n : Int) (r : ByteArray) (w : World) (hG : WG w) (h : itoa.f n = some r) : Calls Tryz.prog 41 #[.int .i64 n] w fun e w' => e = .returned (.string r) ∧ Below w.heap.size w w' := by
  unfold itoa.f at h
  split at h
  · rename_i hc
    obtain rfl := Option.some.inj h
    exact (Any.strconv_Itoa Tryz.lItoa n hc.1 hc.2 w hG.1).mono fun e w' ⟨he, k, os, hw⟩ => ⟨he, hw ▸ below_grow k os⟩
  · cases h
def atoi.f (s : ByteArray) : Option Int := if s.size ≤ 18 then Lib.atoi s.data.toList else none
theorem below_bytes (w : World) (e : TypeId) (t : ByteArray) : Below w.heap.size w (Lib.bytesWorld w e t) := by
  have h : w.grownBy (Lib.bytesWorld w e t) none := ⟨rfl, rfl, rfl, by rw [Lib.bytesWorld_size]; omega, fun i hi _ => Lib.bytesWorld_at_old w e t i hi⟩
  exact (Below.refl _ _).grown h (Nat.le_refl _) (fun j hj => by cases hj)
theorem atoi.calls (s : ByteArray) (r : Int) (w : World) (h : atoi.f s = some r) : Calls Tryz.prog 63 #[.string s] w fun e w' => e = .returned (.tuple #[.int .i64 r, .nilIface]) ∧ Below w.heap.size w w' := by
  unfold atoi.f at h
  split at h
  · rename_i hc
    exact (Any.strconv_Atoi Tryz.lAtoi s r hc h w).mono fun e w' ⟨he, t, hw⟩ => ⟨he, hw ▸ below_bytes _ _ _⟩
  · cases h
def join.f (l : List ByteArray) (sep : ByteArray) : Option ByteArray := if l.length ≤ 140737488355328 ∧ (Lib.join (l.map (·.data.toList)) sep.data.toList).length ≤ 140737488355328 then some ⟨(Lib.join (l.map (·.data.toList)) sep.data.toList).toArray⟩ else none
theorem cell_spot {w : World} {a : Addr} {v : Value} (h : w.cell? a = some v) : a = ⟨a.block, a.off, none⟩ := by
  unfold World.cell? at h
  split at h
  · split at h
    · cases h
    · rename_i hs
      cases a with
      | mk b o s => cases s with
        | none => rfl
        | some x => simp at hs
  · cases h
theorem join.calls (A : Option Addr) (c : Nat) (l : List ByteArray) (sep r : ByteArray) (w : World) (hr0 : Kd.C Kd.string w A l.length l) (hc0 : l.length ≤ c) (h : join.f l sep = some r) : Calls Tryz.prog 59 #[.slice A l.length c, .string sep] w fun e w' => e = .returned (.string r) ∧ Below w.heap.size w w' := by
  unfold join.f at h
  split at h
  · rename_i hc
    obtain rfl := Option.some.inj h
    match l, hr0, hc0, hc with
    | [], _, _, _ =>
      exact (Any.strings_Join_none Tryz.lJoin Tryz.lExtra A c sep w).mono fun e w' ⟨he, hw⟩ => ⟨he, hw ▸ Below.refl _ _⟩
    | x :: l, hr0, hc0, hc =>
      obtain ⟨ad, hA, h0⟩ := Kd.at_string hr0 0 (Int.le_refl _) (by simp)
      subst hA
      have had : ad = ⟨ad.block, ad.off, none⟩ := by
        have := cell_spot h0
        simp only [Addr.add, Int.toNat_zero, Nat.add_zero] at this
        cases ad with
        | mk b o s => simpa using this
      have hcells : ∀ (j : Nat) y, (x :: l)[j]? = some y → w.cell? ⟨ad.block, ad.off + j, none⟩ = some (.string y) := by
        intro j y hj
        obtain ⟨hl, he⟩ := List.getElem?_eq_some_iff.1 hj
        obtain ⟨ad', hA', h1⟩ := Kd.at_string hr0 (j : Int) (by omega) (by omega)
        obtain rfl := Option.some.inj hA'
        have e1 : rdOf ByteArray.empty (x :: l) (j : Int) = y := by
          unfold rdOf
          simp [List.getD, hj]
        rw [e1, had] at h1
        by_cases hj0 : j = 0
        · subst hj0
          simpa [Addr.add] using h1
        · simpa [Addr.add, hj0] using h1
      rw [had]
      exact Any.strings_Join Tryz.lJoin Tryz.lExtra ad.block ad.off c (x :: l) sep w hcells (by have := World.block_lt_of_cell? w _ h0; simpa [Addr.add] using this) hc.1 hc0 hc.2
  · cases h
def split.f (s sep : ByteArray) : Option (List ByteArray) := if s.size < 4294967281 ∧ 1 ≤ sep.size then some (Lib.splitB sep 0 (Lib.countB s sep) s) else none
theorem split.calls (s sep : ByteArray) (r : List ByteArray) (w : World) (hG : WG w) (h : split.f s sep = some r) : Calls Tryz.prog 10 #[.string s, .string sep] w fun e w' => ∃ v0_ : Value, e = .returned v0_ ∧ Kd.R Kd.string 9 w' w.heap.size (fun _ => True) v0_ r ∧ Below w.heap.size w w' := by
  unfold split.f at h
  split at h
  · rename_i hc
    obtain rfl := Option.some.inj h
    obtain ⟨_, m, hm⟩ := hG
    have hlen := Lib.splitB_all sep hc.2 0 _ s rfl
    refine (Any.strings_Split Tryz.lSplit (by kernel_rfl) s sep m w hc.1 hm hc.2).mono fun e w' ⟨he, hw⟩ => ?_
    subst hw
    refine ⟨_, he, Kd.R_of_own (h1 := fun _ => rfl) ?_ (fun _ _ => trivial), below_alloc (Below.refl _ _) _⟩
    have h2 := World.ownsRow_lit (base := w.heap.size) (e := 9) (size := 1) w ((Lib.splitB sep 0 (Lib.countB s sep) s).map Value.string).toArray (Lib.splitB sep 0 (Lib.countB s sep) s).length (Nat.le_refl _) (by rw [hlen]; have := Lib.countB_le sep hc.2 s.size s (Nat.le_refl _); unfold maxLen; omega) (by simp)
    have h3 : (w.alloc (.cells ((Lib.splitB sep 0 (Lib.countB s sep) s).map Value.string).toArray 9)).ownsRow w.heap.size 9 1 (.slice (some ⟨w.heap.size, 0, none⟩) (Lib.splitB sep 0 (Lib.countB s sep) s).length (Lib.splitB sep 0 (Lib.countB s sep) s).length) (Lib.splitB sep 0 (Lib.countB s sep) s).length ((Lib.splitB sep 0 (Lib.countB s sep) s).map Value.string) := by simpa using h2
    have hl2 : (Lib.splitB sep 0 (Lib.countB s sep) s).length = Lib.countB s sep + 1 := hlen
    rw [hl2] at h3 ⊢
    exact h3
  · cases h
theorem gd {P : Program} {ops : Array Oper} {oi : Oper} {a : Act} {w : World} {Q : Exit → Act → World → Prop} {N : Option Tmp} {K : Act → World → Prop} {f : FuncId} {fn : Func} {c : Operand} {as_ : Array Operand} {ts : Array TypeId} (hf : P.funcs[f]? = some fn) (args : Array Value)
    (h : Calls P f args w fun e w' => ∃ v, e = .returned v ∧ K (a.put N v) w') (hname : (fn.name == "runtime.NumGoroutine") = false := by kernel_rfl) (hb : fn.body.isSome = true := by rfl) (hw : Region.wanted oi (yielded ops a.tmps) = true := by rfl) (hN : oi.dst = N := by rfl) (hop : oi.op = .call { callee := .value c, args := as_, argTypes := ts } := by rfl) (hc : a.eval c = .func (.func f) #[] #[] := by rfl) (hargs : as_.map a.eval = args := by ((try simp only [List.map_toArray, List.map_cons, List.map_nil]); first | done | rfl)) :
    if Region.wanted oi (yielded ops a.tmps) = true then Oper.wp P oi a w K Q else K (a.put N undef) w := by
  refine call_ f args hw hN ?_ h
  have he := enters_ hf hname hb args w
  unfold execOp
  simp [hop, resolve, Deferred.ofValue, hc, invoke, hargs, he]
end Go.Proofs.YtjelgpmhbaiipaaGreatDoor.PA.Lb
