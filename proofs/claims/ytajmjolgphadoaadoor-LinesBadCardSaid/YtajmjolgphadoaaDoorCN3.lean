/- Rules, plain laws and walks: LL ST SB SX -/
import Derived.Test.YtajmjolgphadoaaDoorRows
import Derived.Shelf.Lays
import Derived.Shelf.LaysM
import Derived.Shelf.LaysC
import Derived.Shelf.Strings.BuilderX
import Derived.Test.YtajmjolgphadoaaDoorCN2
import Derived.Shelf.Small.Strs
import Derived.Shelf.Strings.Prefix
import Derived.Shelf.Strings.Split
import Derived.Shelf.Strconv.Itoa3
import Derived.Shelf.Strconv.AtoiAll
import Derived.Shelf.Strings.Builder1
import Derived.Lib.AppendStr
import Derived.Lib.UnsafeStr
namespace Go.Proofs.YtajmjolgphadoaaDoor
open Go.Shelf
set_option linter.unusedVariables false
set_option maxRecDepth 100000
def lIndexB_ren : Go.Shelf.Ren := ⟨fun | 137 => 50 | 217 => 73 | 266 => 105 | n => n, fun | 9 => 9 | 5 => 5 | 3 => 3 | n => n, fun | n => n⟩
theorem lIndexB : Go.Proofs.Lays.n137 Tryd.prog lIndexB_ren where
  mixed := by kernel_rfl
  f137 := Tryd.func50.trans (congrArg some (by kernel_rfl))
  f217 := Tryd.func73.trans (congrArg some (by kernel_rfl))
  f266 := Tryd.func105.trans (congrArg some (by kernel_rfl))
  t3 := Tryd.underlying3
  a3 := Tryd.isAgg3
  z3 := Tryd.sizeOf3
  v3 := Tryd.zeroValue3
  t5 := Tryd.underlying5
  a5 := Tryd.isAgg5
  z5 := Tryd.sizeOf5
  v5 := Tryd.zeroValue5
  t9 := Tryd.underlying9
  a9 := Tryd.isAgg9
  z9 := Tryd.sizeOf9
  v9 := Tryd.zeroValue9
def lTrim_ren : Go.Shelf.Ren := ⟨fun | 102 => 52 | 209 => 75 | 207 => 109 | n => n, fun | 9 => 9 | 4 => 4 | 3 => 3 | n => n, fun | n => n⟩
theorem lTrim : Go.Proofs.Lays.n102 Tryd.prog lTrim_ren where
  mixed := by kernel_rfl
  f102 := Tryd.func52.trans (congrArg some (by kernel_rfl))
  f207 := Tryd.func109.trans (congrArg some (by kernel_rfl))
  f209 := Tryd.func75.trans (congrArg some (by kernel_rfl))
  t3 := Tryd.underlying3
  a3 := Tryd.isAgg3
  z3 := Tryd.sizeOf3
  v3 := Tryd.zeroValue3
  t4 := Tryd.underlying4
  a4 := Tryd.isAgg4
  z4 := Tryd.sizeOf4
  v4 := Tryd.zeroValue4
  t9 := Tryd.underlying9
  a9 := Tryd.isAgg9
  z9 := Tryd.sizeOf9
  v9 := Tryd.zeroValue9
def lSplit_ren : Go.Shelf.Ren := ⟨fun | 146 => 51 | 221 => 74 | 268 => 106 | 138 => 107 | 143 => 108 | 195 => 130 | 197 => 131 | 218 => 132 | 219 => 133 | 260 => 146 | 217 => 73 | 225 => 147 | 224 => 148 | 267 => 149 | 266 => 105 | 314 => 155 | n => n, fun | 9 => 9 | 31 => 54 | 3 => 3 | 4 => 4 | 0 => 0 | 105 => 191 | 21 => 21 | 5 => 5 | 46 => 107 | 119 => 218 | 139 => 221 | 138 => 220 | 146 => 222 | 51 => 155 | n => n, fun | 1 => 1 | 3 => 8 | 4 => 9 | n => n⟩
theorem lSplit : Go.Proofs.Lays.n146 Tryd.prog lSplit_ren where
  mixed := by kernel_rfl
  f138 := Tryd.func107.trans (congrArg some (by kernel_rfl))
  f143 := Tryd.func108.trans (congrArg some (by kernel_rfl))
  f146 := Tryd.func51.trans (congrArg some (by kernel_rfl))
  f195 := Tryd.func130.trans (congrArg some (by kernel_rfl))
  f197 := Tryd.func131.trans (congrArg some (by kernel_rfl))
  f217 := Tryd.func73.trans (congrArg some (by kernel_rfl))
  f218 := Tryd.func132.trans (congrArg some (by kernel_rfl))
  f219 := Tryd.func133.trans (congrArg some (by kernel_rfl))
  f221 := Tryd.func74.trans (congrArg some (by kernel_rfl))
  f224 := Tryd.func148.trans (congrArg some (by kernel_rfl))
  f225 := Tryd.func147.trans (congrArg some (by kernel_rfl))
  f260 := Tryd.func146.trans (congrArg some (by kernel_rfl))
  f266 := Tryd.func105.trans (congrArg some (by kernel_rfl))
  f267 := Tryd.func149.trans (congrArg some (by kernel_rfl))
  f268 := Tryd.func106.trans (congrArg some (by kernel_rfl))
  f314 := Tryd.func155.trans (congrArg some (by kernel_rfl))
  t0 := Tryd.underlying0
  a0 := Tryd.isAgg0
  z0 := Tryd.sizeOf0
  v0 := Tryd.zeroValue0
  t3 := Tryd.underlying3
  a3 := Tryd.isAgg3
  z3 := Tryd.sizeOf3
  v3 := Tryd.zeroValue3
  t4 := Tryd.underlying4
  a4 := Tryd.isAgg4
  z4 := Tryd.sizeOf4
  v4 := Tryd.zeroValue4
  t5 := Tryd.underlying5
  a5 := Tryd.isAgg5
  z5 := Tryd.sizeOf5
  v5 := Tryd.zeroValue5
  t9 := Tryd.underlying9
  a9 := Tryd.isAgg9
  z9 := Tryd.sizeOf9
  v9 := Tryd.zeroValue9
  t21 := Tryd.underlying21
  a21 := Tryd.isAgg21
  z21 := Tryd.sizeOf21
  v21 := Tryd.zeroValue21
  t31 := Tryd.underlying54
  a31 := Tryd.isAgg54
  z31 := Tryd.sizeOf54
  v31 := Tryd.zeroValue54
  t46 := Tryd.underlying107
  a46 := Tryd.isAgg107
  z46 := Tryd.sizeOf107
  v46 := Tryd.zeroValue107
  t51 := Tryd.underlying155
  a51 := Tryd.isAgg155
  z51 := Tryd.sizeOf155
  v51 := Tryd.zeroValue155
  t105 := Tryd.underlying191
  a105 := Tryd.isAgg191
  z105 := Tryd.sizeOf191
  v105 := Tryd.zeroValue191
  t119 := Tryd.underlying218
  a119 := Tryd.isAgg218
  z119 := Tryd.sizeOf218
  t138 := Tryd.underlying220
  a138 := Tryd.isAgg220
  z138 := Tryd.sizeOf220
  v138 := Tryd.zeroValue220
  t139 := Tryd.underlying221
  a139 := Tryd.isAgg221
  z139 := Tryd.sizeOf221
  v139 := Tryd.zeroValue221
  t146 := Tryd.underlying222
  a146 := Tryd.isAgg222
  z146 := Tryd.sizeOf222
  v146 := Tryd.zeroValue222
  g1 := by kernel_rfl
  g3 := by kernel_rfl
  g4 := by kernel_rfl
def lItoa_ren : Go.Shelf.Ren := ⟨fun | 171 => 48 | 243 => 72 | 246 => 104 | 283 => 126 | 284 => 127 | 285 => 128 | 286 => 129 | 129 => 102 | 317 => 142 | 318 => 143 | 319 => 144 | 320 => 145 | 337 => 153 | 338 => 154 | n => n, fun | 3 => 3 | 9 => 9 | 2 => 2 | 4 => 4 | 171 => 186 | 0 => 0 | 53 => 157 | 37 => 27 | 5 => 5 | 173 => 188 | 212 => 210 | 51 => 155 | 20 => 20 | 213 => 211 | 46 => 107 | 232 => 224 | 233 => 225 | n => n, fun | 17 => 7 | 18 => 10 | 19 => 11 | n => n⟩
theorem lItoa : Go.Proofs.LaysM.n171 Tryd.prog lItoa_ren where
  mixed := by kernel_rfl
  f129 := Tryd.func102.trans (congrArg some (by kernel_rfl))
  f171 := Tryd.func48.trans (congrArg some (by kernel_rfl))
  f243 := Tryd.func72.trans (congrArg some (by kernel_rfl))
  f246 := Tryd.func104.trans (congrArg some (by kernel_rfl))
  f283 := Tryd.func126.trans (congrArg some (by kernel_rfl))
  f284 := Tryd.func127.trans (congrArg some (by kernel_rfl))
  f285 := Tryd.func128.trans (congrArg some (by kernel_rfl))
  f286 := Tryd.func129.trans (congrArg some (by kernel_rfl))
  f317 := Tryd.func142.trans (congrArg some (by kernel_rfl))
  f318 := Tryd.func143.trans (congrArg some (by kernel_rfl))
  f319 := Tryd.func144.trans (congrArg some (by kernel_rfl))
  f320 := Tryd.func145.trans (congrArg some (by kernel_rfl))
  f337 := Tryd.func153.trans (congrArg some (by kernel_rfl))
  f338 := Tryd.func154.trans (congrArg some (by kernel_rfl))
  t0 := Tryd.underlying0
  a0 := Tryd.isAgg0
  z0 := Tryd.sizeOf0
  v0 := Tryd.zeroValue0
  t2 := Tryd.underlying2
  a2 := Tryd.isAgg2
  z2 := Tryd.sizeOf2
  v2 := Tryd.zeroValue2
  t3 := Tryd.underlying3
  a3 := Tryd.isAgg3
  z3 := Tryd.sizeOf3
  v3 := Tryd.zeroValue3
  t4 := Tryd.underlying4
  a4 := Tryd.isAgg4
  z4 := Tryd.sizeOf4
  v4 := Tryd.zeroValue4
  t5 := Tryd.underlying5
  a5 := Tryd.isAgg5
  z5 := Tryd.sizeOf5
  v5 := Tryd.zeroValue5
  t9 := Tryd.underlying9
  a9 := Tryd.isAgg9
  z9 := Tryd.sizeOf9
  v9 := Tryd.zeroValue9
  t20 := Tryd.underlying20
  a20 := Tryd.isAgg20
  z20 := Tryd.sizeOf20
  v20 := Tryd.zeroValue20
  t37 := Tryd.underlying27
  a37 := Tryd.isAgg27
  z37 := Tryd.sizeOf27
  v37 := Tryd.zeroValue27
  t46 := Tryd.underlying107
  a46 := Tryd.isAgg107
  z46 := Tryd.sizeOf107
  v46 := Tryd.zeroValue107
  t51 := Tryd.underlying155
  a51 := Tryd.isAgg155
  z51 := Tryd.sizeOf155
  v51 := Tryd.zeroValue155
  t53 := Tryd.underlying157
  a53 := Tryd.isAgg157
  z53 := Tryd.sizeOf157
  v53 := Tryd.zeroValue157
  t171 := Tryd.underlying186
  a171 := Tryd.isAgg186
  z171 := Tryd.sizeOf186
  v171 := Tryd.zeroValue186
  t173 := Tryd.underlying188
  a173 := Tryd.isAgg188
  z173 := Tryd.sizeOf188
  v173 := Tryd.zeroValue188
  t212 := Tryd.underlying210
  a212 := Tryd.isAgg210
  z212 := Tryd.sizeOf210
  v212 := Tryd.zeroValue210
  t213 := Tryd.underlying211
  a213 := Tryd.isAgg211
  z213 := Tryd.sizeOf211
  t232 := Tryd.underlying224
  a232 := Tryd.isAgg224
  z232 := Tryd.sizeOf224
  v232 := Tryd.zeroValue224
  t233 := Tryd.underlying225
  a233 := Tryd.isAgg225
  z233 := Tryd.sizeOf225
  v233 := Tryd.zeroValue225
  g17 := by kernel_rfl
  g18 := by kernel_rfl
  g19 := by kernel_rfl
  i0 := by kernel_rfl
  i2 := by kernel_rfl
  i3 := by kernel_rfl
  i4 := by kernel_rfl
  i5 := by kernel_rfl
  i9 := by kernel_rfl
  i20 := by kernel_rfl
  i37 := by kernel_rfl
  i46 := by kernel_rfl
  i51 := by kernel_rfl
  i53 := by kernel_rfl
  i171 := by kernel_rfl
  i173 := by kernel_rfl
  i212 := by kernel_rfl
  i232 := by kernel_rfl
  i233 := by kernel_rfl
  m17 := by kernel_rfl
  m18 := by kernel_rfl
  m19 := by kernel_rfl
def lAtoi_ren : Go.Shelf.Ren := ⟨fun | 172 => 53 | 244 => 76 | 245 => 77 | 247 => 110 | 279 => 111 | 280 => 112 | 281 => 113 | 282 => 114 | 287 => 134 | 316 => 135 | 171 => 48 | 205 => 136 | 321 => 150 | 322 => 151 | 243 => 72 | 246 => 104 | 283 => 126 | 284 => 127 | 285 => 128 | 286 => 129 | 129 => 102 | 317 => 142 | 318 => 143 | 319 => 144 | 320 => 145 | 337 => 153 | 338 => 154 | n => n, fun | 9 => 9 | 3 => 3 | 75 => 72 | 76 => 73 | 4 => 4 | 5 => 5 | 167 => 164 | 37 => 27 | 0 => 0 | 85 => 165 | 2 => 2 | 168 => 167 | 53 => 157 | 175 => 193 | 46 => 107 | 210 => 197 | 127 => 108 | 145 => 216 | 143 => 214 | 21 => 21 | 171 => 186 | 173 => 188 | 212 => 210 | 51 => 155 | 20 => 20 | 213 => 211 | 232 => 224 | 233 => 225 | 80 => 76 | n => n, fun | 15 => 2 | 16 => 3 | 17 => 7 | 18 => 10 | 19 => 11 | n => n⟩
theorem lAtoi : Go.Proofs.LaysC.n172 Tryd.prog lAtoi_ren where
  mixed := by kernel_rfl
  f129 := Tryd.func102.trans (congrArg some (by kernel_rfl))
  f171 := Tryd.func48.trans (congrArg some (by kernel_rfl))
  f172 := Tryd.func53.trans (congrArg some (by kernel_rfl))
  f205 := Tryd.func136.trans (congrArg some (by kernel_rfl))
  f243 := Tryd.func72.trans (congrArg some (by kernel_rfl))
  f244 := Tryd.func76.trans (congrArg some (by kernel_rfl))
  f245 := Tryd.func77.trans (congrArg some (by kernel_rfl))
  f246 := Tryd.func104.trans (congrArg some (by kernel_rfl))
  f247 := Tryd.func110.trans (congrArg some (by kernel_rfl))
  f279 := Tryd.func111.trans (congrArg some (by kernel_rfl))
  f280 := Tryd.func112.trans (congrArg some (by kernel_rfl))
  f281 := Tryd.func113.trans (congrArg some (by kernel_rfl))
  f282 := Tryd.func114.trans (congrArg some (by kernel_rfl))
  f283 := Tryd.func126.trans (congrArg some (by kernel_rfl))
  f284 := Tryd.func127.trans (congrArg some (by kernel_rfl))
  f285 := Tryd.func128.trans (congrArg some (by kernel_rfl))
  f286 := Tryd.func129.trans (congrArg some (by kernel_rfl))
  f287 := Tryd.func134.trans (congrArg some (by kernel_rfl))
  f316 := Tryd.func135.trans (congrArg some (by kernel_rfl))
  f317 := Tryd.func142.trans (congrArg some (by kernel_rfl))
  f318 := Tryd.func143.trans (congrArg some (by kernel_rfl))
  f319 := Tryd.func144.trans (congrArg some (by kernel_rfl))
  f320 := Tryd.func145.trans (congrArg some (by kernel_rfl))
  f321 := Tryd.func150.trans (congrArg some (by kernel_rfl))
  f322 := Tryd.func151.trans (congrArg some (by kernel_rfl))
  f337 := Tryd.func153.trans (congrArg some (by kernel_rfl))
  f338 := Tryd.func154.trans (congrArg some (by kernel_rfl))
  t0 := Tryd.underlying0
  a0 := Tryd.isAgg0
  z0 := Tryd.sizeOf0
  v0 := Tryd.zeroValue0
  t2 := Tryd.underlying2
  a2 := Tryd.isAgg2
  z2 := Tryd.sizeOf2
  v2 := Tryd.zeroValue2
  t3 := Tryd.underlying3
  a3 := Tryd.isAgg3
  z3 := Tryd.sizeOf3
  v3 := Tryd.zeroValue3
  t4 := Tryd.underlying4
  a4 := Tryd.isAgg4
  z4 := Tryd.sizeOf4
  v4 := Tryd.zeroValue4
  t5 := Tryd.underlying5
  a5 := Tryd.isAgg5
  z5 := Tryd.sizeOf5
  v5 := Tryd.zeroValue5
  t9 := Tryd.underlying9
  a9 := Tryd.isAgg9
  z9 := Tryd.sizeOf9
  v9 := Tryd.zeroValue9
  t20 := Tryd.underlying20
  a20 := Tryd.isAgg20
  z20 := Tryd.sizeOf20
  v20 := Tryd.zeroValue20
  t21 := Tryd.underlying21
  a21 := Tryd.isAgg21
  z21 := Tryd.sizeOf21
  v21 := Tryd.zeroValue21
  t37 := Tryd.underlying27
  a37 := Tryd.isAgg27
  z37 := Tryd.sizeOf27
  v37 := Tryd.zeroValue27
  t46 := Tryd.underlying107
  a46 := Tryd.isAgg107
  z46 := Tryd.sizeOf107
  v46 := Tryd.zeroValue107
  t51 := Tryd.underlying155
  a51 := Tryd.isAgg155
  z51 := Tryd.sizeOf155
  v51 := Tryd.zeroValue155
  t53 := Tryd.underlying157
  a53 := Tryd.isAgg157
  z53 := Tryd.sizeOf157
  v53 := Tryd.zeroValue157
  t75 := Tryd.underlying72
  a75 := Tryd.isAgg72
  z75 := Tryd.sizeOf72
  v75 := Tryd.zeroValue72
  t76 := Tryd.underlying73
  a76 := Tryd.isAgg73
  z76 := Tryd.sizeOf73
  v76 := Tryd.zeroValue73
  t85 := Tryd.underlying165
  a85 := Tryd.isAgg165
  z85 := Tryd.sizeOf165
  v85 := Tryd.zeroValue165
  t127 := Tryd.underlying108
  a127 := Tryd.isAgg108
  z127 := Tryd.sizeOf108
  v127 := Tryd.zeroValue108
  t143 := Tryd.underlying214
  a143 := Tryd.isAgg214
  z143 := Tryd.sizeOf214
  v143 := Tryd.zeroValue214
  t145 := Tryd.underlying216
  a145 := Tryd.isAgg216
  z145 := Tryd.sizeOf216
  v145 := Tryd.zeroValue216
  t167 := Tryd.underlying164
  a167 := Tryd.isAgg164
  z167 := Tryd.sizeOf164
  v167 := Tryd.zeroValue164
  t168 := Tryd.underlying167
  a168 := Tryd.isAgg167
  z168 := Tryd.sizeOf167
  v168 := Tryd.zeroValue167
  t171 := Tryd.underlying186
  a171 := Tryd.isAgg186
  z171 := Tryd.sizeOf186
  v171 := Tryd.zeroValue186
  t173 := Tryd.underlying188
  a173 := Tryd.isAgg188
  z173 := Tryd.sizeOf188
  v173 := Tryd.zeroValue188
  t175 := Tryd.underlying193
  a175 := Tryd.isAgg193
  z175 := Tryd.sizeOf193
  v175 := Tryd.zeroValue193
  t210 := Tryd.underlying197
  a210 := Tryd.isAgg197
  z210 := Tryd.sizeOf197
  v210 := Tryd.zeroValue197
  t212 := Tryd.underlying210
  a212 := Tryd.isAgg210
  z212 := Tryd.sizeOf210
  v212 := Tryd.zeroValue210
  t213 := Tryd.underlying211
  a213 := Tryd.isAgg211
  z213 := Tryd.sizeOf211
  t232 := Tryd.underlying224
  a232 := Tryd.isAgg224
  z232 := Tryd.sizeOf224
  v232 := Tryd.zeroValue224
  t233 := Tryd.underlying225
  a233 := Tryd.isAgg225
  z233 := Tryd.sizeOf225
  v233 := Tryd.zeroValue225
  g15 := by kernel_rfl
  g16 := by kernel_rfl
  g17 := by kernel_rfl
  g18 := by kernel_rfl
  g19 := by kernel_rfl
  t80 := Tryd.underlying76
  a80 := Tryd.isAgg76
  z80 := Tryd.sizeOf76
  v80 := Tryd.zeroValue76
  i0 := by kernel_rfl
  i2 := by kernel_rfl
  i3 := by kernel_rfl
  i4 := by kernel_rfl
  i5 := by kernel_rfl
  i9 := by kernel_rfl
  i20 := by kernel_rfl
  i21 := by kernel_rfl
  i37 := by kernel_rfl
  i46 := by kernel_rfl
  i51 := by kernel_rfl
  i53 := by kernel_rfl
  i75 := by kernel_rfl
  i76 := by kernel_rfl
  i80 := by kernel_rfl
  i85 := by kernel_rfl
  i127 := by kernel_rfl
  i143 := by kernel_rfl
  i145 := by kernel_rfl
  i167 := by kernel_rfl
  i168 := by kernel_rfl
  i171 := by kernel_rfl
  i173 := by kernel_rfl
  i175 := by kernel_rfl
  i210 := by kernel_rfl
  i212 := by kernel_rfl
  i232 := by kernel_rfl
  i233 := by kernel_rfl
  m15 := by kernel_rfl
  m16 := by kernel_rfl
  m17 := by kernel_rfl
  m18 := by kernel_rfl
  m19 := by kernel_rfl
  c0 := by kernel_rfl
  c2 := by kernel_rfl
  c3 := by kernel_rfl
  c4 := by kernel_rfl
  c5 := by kernel_rfl
  c9 := by kernel_rfl
  c20 := by kernel_rfl
  c21 := by kernel_rfl
  c37 := by kernel_rfl
  c46 := by kernel_rfl
  c51 := by kernel_rfl
  c53 := by kernel_rfl
  c75 := by kernel_rfl
  c76 := by kernel_rfl
  c80 := by kernel_rfl
  c85 := by kernel_rfl
  c127 := by kernel_rfl
  c143 := by kernel_rfl
  c145 := by kernel_rfl
  c167 := by kernel_rfl
  c168 := by kernel_rfl
  c171 := by kernel_rfl
  c173 := by kernel_rfl
  c175 := by kernel_rfl
  c210 := by kernel_rfl
  c212 := by kernel_rfl
  c213 := by kernel_rfl
  c232 := by kernel_rfl
  c233 := by kernel_rfl
def lString_ren : Go.Shelf.Ren := ⟨fun | 169 => 28 | n => n, fun | 70 => 67 | 9 => 9 | 0 => 0 | 72 => 69 | 37 => 27 | 127 => 108 | 3 => 3 | 5 => 5 | n => n, fun | n => n⟩
theorem lExtra : Go.Proofs.Builder.Extra Tryd.prog lString_ren where
  sizeBuilder := by kernel_rfl
  liesBuilder := by kernel_rfl
  t5 := by kernel_rfl
  a5 := fun w => by kernel_rfl
  z5 := fun w => by kernel_rfl
  v5 := fun w => by kernel_rfl
  infoByte := by kernel_rfl
  cellsByte := by kernel_rfl
  sizeByte := by kernel_rfl
  neB5 := by decide
end Go.Proofs.YtajmjolgphadoaaDoor
namespace Go.Proofs.YtajmjolgphadoaaDoor
open Go.RowKit Go.Shelf Go.Sort
set_option linter.unusedVariables false
set_option linter.unusedSimpArgs false
set_option maxRecDepth 100000
/-- A string of these bytes. -/
abbrev strV (l : By) : Value := .string ⟨l.toArray⟩
/-- The package's variables, as they are laid. -/
structure Laid (W : World) : Prop where
  tab : Lib.TabIs Tryd.prog W "internal/strconv.uint64pow10" .u64 Lib.pow10Tab
  max : ∃ m, W.cell? ⟨1, 0, none⟩ = some (.int .i64 m)
  syn : ∃ ev, W.cell? ⟨2, 0, none⟩ = some ev ∧ (ev = .nilIface ∨ ∃ te pe, ev = .iface te pe)
  ran : ∃ ev, W.cell? ⟨3, 0, none⟩ = some ev ∧ (ev = .nilIface ∨ ∃ te pe, ev = .iface te pe)
theorem cell_keep {W w : World} {F : Fz} (hF : Le (whole W) F) (hs : Sat w F) {a : Addr} {v : Value} (h : W.cell? a = some v) : w.cell? a = some v := by
  unfold World.cell? at h ⊢
  cases hb : W.heap[a.block]? with
  | none => rw [hb] at h; cases h
  | some o => rw [hb] at h; rw [hs _ _ (hF _ _ hb)]; exact h
theorem tab_keep {W w : World} {F : Fz} (hF : Le (whole W) F) (hs : Sat w F) {name : String} {k : IntKind} {zs : List Int} (h : Lib.TabIs Tryd.prog W name k zs) : Lib.TabIs Tryd.prog w name k zs := by
  unfold Lib.TabIs World.var? at h ⊢
  cases hg : Tryd.prog.globalNamed name with
  | none => rw [hg] at h; cases h
  | some g =>
    rw [hg] at h
    simp only [Option.bind_some] at h ⊢
    cases hb : W.heap[g]? with
    | none => rw [hb] at h; cases h
    | some o => rw [hb] at h; rw [hs _ _ (hF _ _ hb)]; exact h
theorem Laid.keep {W w : World} {F : Fz} (h : Laid W) (hF : Le (whole W) F) (hs : Sat w F) : Laid w :=
  ⟨tab_keep hF hs h.tab, h.max.imp fun _ q => cell_keep hF hs q, h.syn.imp fun _ q => ⟨cell_keep hF hs q.1, q.2⟩, h.ran.imp fun _ q => ⟨cell_keep hF hs q.1, q.2⟩⟩
theorem below_grow2 (w : World) (k : Nat) (os : Array Obj) : Below w.heap.size w (grow (w.drewN k) os) := ⟨rfl, rfl, rfl, by simp [grow], fun j hj => by rw [heap_grow_old _ _ (by exact hj)]; rfl⟩
theorem itoa_spec (w : World) (hT : Laid w) (n : Int) (h0 : -9223372036854775808 ≤ n) (h1 : n ≤ 9223372036854775807) :
    Calls Tryd.prog 48 #[.int .i64 n] w (Tells w (strV (Lib.itoa n))) := by
  have h := Go.Proofs.Any.strconv_Itoa (P := Tryd.prog) (ρ := lItoa_ren) lItoa n h0 h1 w hT.tab
  exact h.mono fun e w' ⟨he, k, os, hw⟩ => ⟨he, by subst hw; exact below_grow2 w k os⟩
theorem indexB_spec (w : World) (l : By) (c : Int) :
    Calls Tryd.prog 50 #[strV l, .int .u8 c] w (Tells w (.int .i64 (Lib.indexByte l c.toNat.toUInt8))) :=
  tells_same (Go.Proofs.Any.strings_IndexByte (P := Tryd.prog) (ρ := lIndexB_ren) lIndexB ⟨l.toArray⟩ c w)
theorem trim_spec (w : World) (l p : By) (h : l.length ≤ 9223372036854775807) :
    Calls Tryd.prog 52 #[strV l, strV p] w (Tells w (strV (Lib.trimSuffix l p))) :=
  tells_same (Go.Proofs.Any.strings_TrimSuffix (P := Tryd.prog) (ρ := lTrim_ren) lTrim ⟨l.toArray⟩ ⟨p.toArray⟩ w (by simpa [ByteArray.size] using h))
theorem below_bytes (w : World) (e : TypeId) (s : ByteArray) : Below w.heap.size w (Lib.bytesWorld w e s) := by
  unfold Lib.bytesWorld
  have h1 : Below w.heap.size w (w.drew.alloc (.cells (Lib.bytesCells w e s) e)) := (Below.refl _ _).drew.alloc (Nat.le_refl _) _
  refine h1.trans ⟨rfl, rfl, rfl, by simp [World.freeze], fun k hk => ?_⟩
  simp only [World.freeze, Nat.one_ne_zero, if_false]
  rw [Array.getElem?_modify, if_neg (by omega)]
theorem atoi_spec (w : World) (hT : Laid w) (l : By) (h : l.length ≤ 2000000) :
    Calls Tryd.prog 53 #[strV l] w fun e w' => ∃ x, e = .returned (.tuple #[.int .i64 (atoiV l), x]) ∧ Below w.heap.size w w' := by
  have hsz : (⟨l.toArray⟩ : ByteArray).size = l.length := by simp [ByteArray.size]
  cases hc : Lib.atoiAll l with
  | ok v =>
    have q := Go.Proofs.Any.strconv_Atoi_ok (P := Tryd.prog) (ρ := lAtoi_ren) lAtoi ⟨l.toArray⟩ (by rw [hsz]; omega) v (by simpa using hc) w
    refine q.mono fun e w' hh => ⟨.nilIface, ?_, ?_⟩
    · rw [hh.1]; unfold atoiV; rw [hc]
    · rcases hh.2 with e1 | ⟨t, e1⟩
      · subst e1; exact Below.refl _ _
      · subst e1; exact below_bytes _ _ _
  | range =>
    obtain ⟨ev, h1, h2⟩ := hT.ran
    have q := Go.Proofs.Any.strconv_Atoi_range (P := Tryd.prog) (ρ := lAtoi_ren) lAtoi ⟨l.toArray⟩ (by rw [hsz]; omega) (by simpa using hc) ev w h1 h2
    refine q.mono fun e w' hh => ?_
    obtain ⟨N, he, _, _, hb⟩ := hh
    exact ⟨_, by rw [he]; unfold atoiV; rw [hc], hb⟩
  | _ =>
    obtain ⟨ev, h1, h2⟩ := hT.syn
    have q := Go.Proofs.Any.strconv_Atoi_syntax (P := Tryd.prog) (ρ := lAtoi_ren) lAtoi ⟨l.toArray⟩ (by rw [hsz]; omega) (by simpa using hc) ev w h1 h2
    refine q.mono fun e w' hh => ?_
    obtain ⟨N, he, _, _, hb⟩ := hh
    exact ⟨_, by rw [he]; unfold atoiV; rw [hc], hb⟩
end Go.Proofs.YtajmjolgphadoaaDoor
namespace Go.Proofs.YtajmjolgphadoaaDoor
open Go.RowKit Go.Shelf Go.Sort
set_option linter.unusedVariables false
set_option linter.unusedSimpArgs false
set_option maxRecDepth 100000
set_option maxHeartbeats 4000000 in
theorem check_used (b : Nat) (w : World) (h0 : w.cell? ⟨b, 0, none⟩ = some (.pointer (some ⟨b, 0, none⟩))) :
    Calls Tryd.prog 47 #[.pointer (some ⟨b, 0, none⟩)] w fun e w' => e = .returned (.tuple #[]) ∧ w' = w := by
  obtain ⟨j, hj, _⟩ := Option.map_eq_some_iff.1 lExtra.sizeBuilder
  go_enter Tryd.func47, Tryd.ntmps47
  go_wp2
  rw [Lib.run_neq_ptr_same w _ Tryd.underlying67 hj]
  go_wp2
  go_end0
  exact ⟨rfl, rfl⟩
set_option maxHeartbeats 4000000 in
theorem check_fresh (b : Nat) (w : World) (h0 : w.cell? ⟨b, 0, none⟩ = some (.pointer none)) (hsh : w.shape? b = some (69, 2)) (hfz : w.frozen? ⟨b, 0, none⟩ = false) :
    Calls Tryd.prog 47 #[.pointer (some ⟨b, 0, none⟩)] w fun e w' => e = .returned (.tuple #[]) ∧ w' = w.setCell ⟨b, 0, none⟩ (.pointer (some ⟨b, 0, none⟩)) := by
  obtain ⟨j, hj, hjs⟩ := Option.map_eq_some_iff.1 lExtra.sizeBuilder
  go_enter Tryd.func47, Tryd.ntmps47
  go_wp2
  rw [Lib.run_to_unsafe w ⟨b, 0, none⟩ Tryd.underlying67 Tryd.underlying128 hj (by rw [hjs]; decide) hsh (Nat.zero_lt_succ 1)]
  simp only [Result.andThen]
  rw [Oper.upon_value]
  go_wp2
  rw [run_callFunc_extern Tryd.func71 (by kernel_rfl) (by kernel_rfl) (by kernel_rfl) (e := Extern.AbiNoEscape.same) (by kernel_rfl)]
  rw [Lib.run_noEscape]
  simp only [Result.andThen]
  rw [Oper.upon_value]
  go_wp2
  rw [Lib.run_from_unsafe w ⟨b, 0, none⟩ Tryd.underlying128 Tryd.underlying67 hj hsh lExtra.liesBuilder]
  simp only [Result.andThen]
  rw [Oper.upon_value]
  go_wp2
  go_end0
  exact ⟨rfl, rfl⟩
theorem strCells_bv (l : By) : Lib.strCells ⟨l.toArray⟩ = l.map bv := by
  unfold Lib.strCells; simp only; rfl
theorem size_str (l : By) : (⟨l.toArray⟩ : ByteArray).size = l.length := by simp [ByteArray.size]
/-- A string's bytes are appended to a row of bytes. -/
theorem stAppStr {P : Program} {w0 w : World} {F0 F : Fz} {L : List Blk} {M : List RowP} {ops : Array Oper} {Q : Exit → Act → World → Prop} {a : Act} {rest : List Oper} {d : Option Tmp} {t T U E base : TypeId} {x s : Operand} {pos : String} {after : Array Edge} {guard : Option (Nat × Bool)} {v : Value} {l l2 : By} {r : Nat} (S : St w0 F0 w F L M)
    (hw : Region.wanted ⟨d, .call ⟨.builtin .append, #[s, x], #[T, U]⟩, t, pos, after, guard⟩ (yielded ops a.tmps) = true) (hs : a.eval s = v) (hx : a.eval x = strV l2) (hM : M[r]? = some (ownP 1 ByC ByC.mono E base v l))
    (inf : TypeInfo) (ht : P.underlying T = some (.slice E)) (hu : P.underlying U = some .string) (hi : P.info? E = some inf) (hz : inf.zero = some (.int .u8 0)) (hsize : inf.size = 1) (hby : inf.bytes = 1)
    (hb : w0.heap.size ≤ base) (hb2 : base ≤ w.heap.size) (hl : l.length + l2.length ≤ 100000000)
    (h : ∀ v' w', St w0 F0 w' F L (M.set r (ownP 1 ByC ByC.mono E base v' (l ++ l2))) → WL P ops Q rest (a.put d v') w') : WL P ops Q (⟨d, .call ⟨.builtin .append, #[s, x], #[T, U]⟩, t, pos, after, guard⟩ :: rest) a w := by
  obtain ⟨el, e1, e2, e3⟩ := (S.own hM).ex
  have hsz := size_str l2
  obtain ⟨v', w', hrun, hown, hgrow, hnil⟩ := Lib.run_append_own_string (P := P) w base T U t E inf ht hu hi hz hsize hby v l.length el.flatten e1 ⟨l2.toArray⟩ (by rw [hsz]; unfold maxLen; omega) (by rw [hsz]; omega) hb2
  rw [hsz] at hown
  have hblk : ∀ g, v'.ownBlock = some g → v.ownBlock = some g ∨ w.heap.size ≤ g := by
    intro g hg
    rcases e1.2 with ⟨hv, h0⟩ | ⟨g0, cap, cur, hv, hbg, hg0, hnc, hcm, hcs, htake⟩
    · by_cases hm : l2 = []
      · rw [hnil.2 ⟨hv, by rw [hsz, hm]; rfl⟩] at hg
        cases hg
      · have hr := run_append_nil_string (P := P) w T U t E inf (.int .u8 0) ht hu hi hz ⟨l2.toArray⟩ (by rw [hsz]; exact List.length_pos_iff.2 hm) (by rw [hsz]; omega) (by rw [hsz, hby]; omega)
        rw [hv, hr] at hrun
        injection hrun with q1 q2
        rw [← q1] at hg
        injection hg with hg
        exact .inr (Nat.le_of_eq hg)
    · by_cases hroom : l.length + l2.length ≤ cap
      · have hr := Lib.run_append_room_string (P := P) w T U t E inf ht hu hi hsize g0 l.length cap cur hg0 ⟨l2.toArray⟩ (by rw [hsz]; exact hroom) (by rw [hsz]; omega)
        rw [hv, hr] at hrun
        injection hrun with q1 q2
        rw [← q1] at hg
        rw [hv]
        exact .inl hg
      · have hr := Lib.run_append_grow_string (P := P) w T U t E inf (.int .u8 0) ht hu hi hz ⟨g0, 0, none⟩ l.length cap el.flatten (by rw [hsize]; exact e1.1) (e1.cells (g := g0) (by rw [hv]; rfl)) ⟨l2.toArray⟩ (by rw [hsz]; omega) (by rw [hsz]; omega) (by rw [hsz, hby]; exact growslice_fits (by omega) (by omega))
        rw [hv, hr] at hrun
        injection hrun with q1 q2
        rw [← q1] at hg
        injection hg with hg
        exact .inr (Nat.le_of_eq hg)
  have hO : Own 1 ByC E base w' F v' (l ++ l2) := by
    refine ⟨⟨(l ++ l2).map fun b => [bv b], ?_, allR_bytes F _, fun y hy => by obtain ⟨b, _, rfl⟩ := List.mem_map.1 hy; rfl⟩, fun g hg => ?_⟩
    · rw [bytes_flat, List.map_append, List.length_append, ← strCells_bv l2, ← bytes_of e2]
      exact hown
    · rcases hblk g hg with q | q
      · exact (S.own hM).out g q
      · exact S.sat.out q
  refine do_ hw v' ?_ (h v' w' (S.grown hM hb hgrow hO hblk))
  simp only [execOp, resolve, invoke, builtin, Sem.run_bind, Sem.run_pure, Result.andThen_ok, List.map_toArray, List.map_cons, List.map_nil, hs, hx, hrun]
theorem fa_builder_1 (b : Nat) (w : World) : (Instr.fieldAt 69 (.pointer (some ⟨b, 0, none⟩)) 1).run Tryd.prog w = .ok (.pointer (some ⟨b, 1, none⟩)) w := by go_simp
theorem ent_47 (vs : Array Value) (w : World) : (callFunc 47 vs).run Tryd.prog w = .ok (.enter 47 vs) w := by kernel_rfl
theorem ex_lenStr {P : Program} {ρ : Operand → Value} {w : World} {d : Option Tmp} {t T : TypeId} {pos : String} {after : Array Edge} {guard : Option (Nat × Bool)} {x : Operand} {l : By} (hT : P.underlying T = some .string) (h : ρ x = strV l) : (execOp ρ ⟨d, .call ⟨.builtin .len, #[x], #[T]⟩, t, pos, after, guard⟩).run P w = .ok (.value (.int .i64 (l.length : Nat))) w := by
  have e : (⟨l.toArray⟩ : ByteArray).size = l.length := size_str l
  simp [execOp, resolve, invoke, builtin, Builtin.len_, h, run_underlying hT w, e]; rfl
/-- A builder that has been used or not: its own address is stored. -/
theorem check_own {w0 w : World} {F0 F : Fz} {L0 : List Blk} {M0 : List RowP} {b : Nat} {p v : Value} (S : St w0 F0 w F (⟨b, [p, v], 69⟩ :: L0) M0) (hp : p = .pointer none ∨ p = .pointer (some ⟨b, 0, none⟩)) :
    Calls Tryd.prog 47 #[.pointer (some ⟨b, 0, none⟩)] w fun e w' => e = .returned (.tuple #[]) ∧ St w0 F0 w' F (⟨b, [.pointer (some ⟨b, 0, none⟩), v], 69⟩ :: L0) M0 := by
  have hb := (S.blk _ (List.mem_cons_self ..)).1
  simp only at hb
  have hc := S.cell (i := 0) rfl (j := 0) (v := p) rfl
  rcases hp with rfl | rfl
  · refine (check_fresh b w hc (by simp [World.shape?, hb]) (by simp [World.frozen?, hb])).mono fun e w' hh => ⟨hh.1, ?_⟩
    rw [hh.2]
    have := S.store (i := 0) rfl 0 [.pointer (some ⟨b, 0, none⟩)] (by simp)
    exact this
  · refine (check_used b w hc).mono fun e w' hh => ⟨hh.1, ?_⟩
    rw [hh.2]
    exact S
set_option maxHeartbeats 8000000 in
theorem write_own {w0 w : World} {F0 F : Fz} {L0 : List Blk} {M0 : List RowP} {b : Nat} {p v : Value} {l s : By} (S : St w0 F0 w F (⟨b, [p, v], 69⟩ :: L0) (ownP 1 ByC ByC.mono 5 w0.heap.size v l :: M0)) (hp : p = .pointer none ∨ p = .pointer (some ⟨b, 0, none⟩)) (hl : l.length + s.length ≤ 100000000) :
    Calls Tryd.prog 26 #[.pointer (some ⟨b, 0, none⟩), strV s] w fun e w' => ∃ v', e = .returned (.tuple #[.int .i64 (s.length : Nat), .nilIface]) ∧ St w0 F0 w' F (⟨b, [.pointer (some ⟨b, 0, none⟩), v'], 69⟩ :: L0) (ownP 1 ByC ByC.mono 5 w0.heap.size v' (l ++ s) :: M0) := by
  obtain ⟨i5, hi5, hz5, hs5, hb5⟩ := info_parts lExtra.infoByte
  go_enter Tryd.func26, Tryd.ntmps26
  refine wp_seq_k (fun K1 hK1 => region_wl ?_)
  refine do_ rfl (.int .i64 0) (ex_assign _) ?_
  simp only [pS, pN, pA, pC, pZ]
  refine do_ rfl .nilIface (ex_assign _) ?_
  simp only [pS, pN, pA, pC, pZ]
  refine wl_nil (hK1 _ _ ?_)
  refine wp_seq_k (fun K2 hK2 => region_wl ?_)
  refine do_ rfl (.pointer (some ⟨b, 0, none⟩)) (ex_move _) ?_
  simp only [pS, pN, pA, pC, pZ]
  refine doC rfl (ex_fn (vs := #[.pointer (some ⟨b, 0, none⟩)]) (map1 rfl) rfl (ent_47 _ _)) (check_own S hp) (fun e w1 hh => ?_)
  obtain ⟨rfl, S1⟩ := hh
  refine ⟨_, rfl, ?_⟩
  simp only [pS, pN, pA, pC, pZ]
  refine wl_nil (hK2 _ _ ?_)
  refine wp_seq_k (fun K3 hK3 => region_wl ?_)
  refine do_ rfl (.pointer (some ⟨b, 0, none⟩)) (ex_move _) ?_
  simp only [pS, pN, pA, pC, pZ]
  refine do_ rfl (.pointer (some ⟨b, 0, none⟩)) (ex_move _) ?_
  simp only [pS, pN, pA, pC, pZ]
  refine do_ rfl (.pointer (some ⟨b, 0, none⟩)) (ex_nil rfl) ?_
  simp only [pS, pN, pA, pC, pZ]
  refine do_ rfl (.pointer (some ⟨b, 1, none⟩)) (ex_field (q := ⟨b, 1, none⟩) rfl (fa_builder_1 _)) ?_
  simp only [pS, pN, pA, pC, pZ]
  refine do_ rfl v (ex_load rfl (load1 (nagg_27 _) (St.cell S1 (i := 0) rfl rfl))) ?_
  simp only [pS, pN, pA, pC, pZ]
  refine do_ rfl (strV s) (ex_move _) ?_
  simp only [pS, pN, pA, pC, pZ]
  refine stAppStr (r := 0) (l2 := s) S1 rfl rfl rfl rfl i5 Tryd.underlying27 Tryd.underlying9 hi5 hz5 hs5 hb5 (Nat.le_refl _) S1.gr.below.size hl (fun v2 w2 S2 => ?_)
  simp only [pS, pN, pA, pC, pZ]
  have S2 : St w0 F0 w2 F (⟨b, [.pointer (some ⟨b, 0, none⟩), v], 69⟩ :: L0) (ownP 1 ByC ByC.mono 5 w0.heap.size v2 (l ++ s) :: M0) := S2
  obtain ⟨a2, c2, hv2, hc1, hc2⟩ := (S2.own (i := 0) rfl).shape
  subst hv2
  refine do_ rfl (.pointer (some ⟨b, 0, none⟩)) (ex_nil rfl) ?_
  simp only [pS, pN, pA, pC, pZ]
  refine do_ rfl (.pointer (some ⟨b, 1, none⟩)) (ex_field (q := ⟨b, 1, none⟩) rfl (fa_builder_1 _)) ?_
  simp only [pS, pN, pA, pC, pZ]
  refine stStore (i := 0) (v := .slice a2 (l ++ s).length c2) S2 rfl rfl rfl rfl (size_27) (allc1 rfl) (Nat.le_of_ble_eq_true rfl) (fun w3 S3 => ?_)
  simp only [pS, pN, pA, pC, pZ]
  have S3 : St w0 F0 w3 F (⟨b, [.pointer (some ⟨b, 0, none⟩), .slice a2 (l ++ s).length c2], 69⟩ :: L0) (ownP 1 ByC ByC.mono 5 w0.heap.size (.slice a2 (l ++ s).length c2) (l ++ s) :: M0) := S3
  refine wl_nil (hK3 _ _ ?_)
  refine wp_seq_k (fun K4 hK4 => region_wl ?_)
  refine do_ rfl (strV s) (ex_move _) ?_
  simp only [pS, pN, pA, pC, pZ]
  refine do_ rfl (.int .i64 (s.length : Nat)) (ex_lenStr Tryd.underlying9 rfl) ?_
  simp only [pS, pN, pA, pC, pZ]
  refine do_ rfl (.int .i64 (s.length : Nat)) (ex_assign _) ?_
  simp only [pS, pN, pA, pC, pZ]
  refine do_ rfl .nilIface (ex_assign _) ?_
  simp only [pS, pN, pA, pC, pZ]
  refine wl_nil (hK4 _ _ ?_)
  refine wp_ret ?_
  (try simp only [Exit.then, Exit.inBlock, ↓reduceIte, Nat.reduceEqDiff])
  refine bodyPost_ret (v := (.tuple #[.int .i64 (s.length : Nat), .nilIface])) ?_ rfl ?_
  · exact res_tt rfl rfl rfl
  · exact Exists.intro _ (And.intro rfl S3)
/-- What a call does to a block of the caller's own that is followed no more. -/
theorem St.touch {w0 w w' : World} {F0 F : Fz} {L : List Blk} {M : List RowP} {n : Nat} {c : List Value} {t : TypeId} (S : St w0 F0 w F (⟨n, c, t⟩ :: L) M) (hp : ∀ b, b ≠ n → w'.heap[b]? = w.heap[b]?) (hsz : w'.heap.size = w.heap.size) (ho : w'.os = w.os) (ht : w'.tape = w.tape) (hu : w'.output = w.output) : St w0 F0 w' F L M := by
  obtain ⟨b1, b2, b3⟩ := S.blk _ (List.mem_cons_self ..)
  simp only at b1 b2 b3
  have hne : ∀ x ∈ L, x.n ≠ n := fun x hx => ((List.pairwise_cons.1 S.bb).1 x hx).symm
  have hsat : Sat w' F := fun b o hb => by
    rw [hp b (fun e => by rw [e, b2] at hb; cases hb)]
    exact S.sat b o hb
  have gb := S.gr.below
  refine ⟨⟨⟨ho.trans gb.os, ht.trans gb.tape, hu.trans gb.output, by rw [hsz]; exact gb.size, fun k hk => (hp k (by omega)).trans (gb.block k hk)⟩, S.gr.old, hsat⟩, fun x hx => ?_, fun r hr => ?_, (List.pairwise_cons.1 S.bb).2, fun r hr x hx => S.rb r hr x (List.mem_cons_of_mem _ hx), S.rr⟩
  · have := S.blk x (List.mem_cons_of_mem _ hx)
    exact ⟨(hp _ (hne x hx)).trans this.1, this.2⟩
  · have hr1 := S.row r hr
    have hgn : ∀ g, r.ob = some g → g ≠ n := fun g hg e => S.rb r hr _ (List.mem_cons_self ..) (by rw [hg, e])
    exact ⟨r.stable _ _ _ _ hr1.1 (fun g hg => hp g (hgn g hg)) (Le.refl _) (fun g hg => (hr1.2 g hg).2.1), fun g hg => ⟨by rw [hsz]; exact (hr1.2 g hg).1, (hr1.2 g hg).2⟩⟩
theorem ex_sdata {P : Program} {ρ : Operand → Value} {w : World} {d : Option Tmp} {t T : TypeId} {pos : String} {after : Array Edge} {guard : Option (Nat × Bool)} {x : Operand} {g n c : Nat} (h : ρ x = .slice (some ⟨g, 0, none⟩) n c) (hc : c ≠ 0) : (execOp ρ ⟨d, .call ⟨.builtin .unsafeSliceData, #[x], #[T]⟩, t, pos, after, guard⟩).run P w = .ok (.value (.pointer (some ⟨g, 0, none⟩))) w := by
  have := Lib.run_unsafeSliceData_row (P := P) (w := w) #[T] t ⟨g, 0, none⟩ n c hc
  simp only [execOp, resolve, invoke, builtin, Sem.run_bind, Sem.run_pure, Result.andThen_ok, List.map_toArray, List.map_cons, List.map_nil, h, this]
theorem ex_sdataN {P : Program} {ρ : Operand → Value} {w : World} {d : Option Tmp} {t T : TypeId} {pos : String} {after : Array Edge} {guard : Option (Nat × Bool)} {x : Operand} {n c : Nat} (h : ρ x = .slice none n c) : (execOp ρ ⟨d, .call ⟨.builtin .unsafeSliceData, #[x], #[T]⟩, t, pos, after, guard⟩).run P w = .ok (.value (.pointer none)) w := by
  have := Lib.run_unsafeSliceData_nil (P := P) (w := w) #[T] t n c
  simp only [execOp, resolve, invoke, builtin, Sem.run_bind, Sem.run_pure, Result.andThen_ok, List.map_toArray, List.map_cons, List.map_nil, h, this]
theorem ex_ustr {P : Program} {ρ : Operand → Value} {w w' : World} {d : Option Tmp} {t T U : TypeId} {pos : String} {after : Array Edge} {guard : Option (Nat × Bool)} {x y : Operand} {u v s : Value} (hx : ρ x = u) (hy : ρ y = v) (h : (Builtin.unsafeString_ #[T, U] t #[u, v]).run P w = .ok s w') : (execOp ρ ⟨d, .call ⟨.builtin .unsafeString, #[x, y], #[T, U]⟩, t, pos, after, guard⟩).run P w = .ok (.value s) w' := by
  simp only [execOp, resolve, invoke, builtin, Sem.run_bind, Sem.run_pure, Result.andThen_ok, List.map_toArray, List.map_cons, List.map_nil, hx, hy, h]
set_option maxHeartbeats 8000000 in
theorem string_nil {w0 w : World} {F0 F : Fz} {L0 : List Blk} {M0 : List RowP} {b : Nat} {p : Value} (S : St w0 F0 w F (⟨b, [p, .slice none 0 0], 69⟩ :: L0) M0) :
    Calls Tryd.prog 28 #[.pointer (some ⟨b, 0, none⟩)] w fun e w' => e = .returned (strV []) ∧ St w0 F0 w' F (⟨b, [p, .slice none 0 0], 69⟩ :: L0) M0 := by
  go_enter Tryd.func28, Tryd.ntmps28
  have S1 : St w0 F0 w.drew F (⟨b, [p, .slice none 0 0], 69⟩ :: L0) M0 := S.tells (Below.refl _ _).drew
  refine wp_seq_k (fun K1 hK1 => region_wl ?_)
  refine do_ rfl (strV []) (ex_assign _) ?_
  simp only [pS, pN, pA, pC, pZ]
  refine wl_nil (hK1 _ _ ?_)
  refine wp_seq_k (fun K2 hK2 => ?_)
  refine region_still 10 (by kernel_rfl) (by kernel_rfl) ?_
  simp only [List.take_succ_cons, List.take_zero]
  refine ws_do rfl (.pointer (some ⟨b, 0, none⟩)) (ex_move _) ?_
  simp only [pS, pN, pA, pC, pZ]
  refine ws_do rfl (.pointer (some ⟨b, 0, none⟩)) (ex_nil rfl) ?_
  simp only [pS, pN, pA, pC, pZ]
  refine ws_do rfl (.pointer (some ⟨b, 1, none⟩)) (ex_field (q := ⟨b, 1, none⟩) rfl (fa_builder_1 _)) ?_
  simp only [pS, pN, pA, pC, pZ]
  refine ws_do rfl (.slice none 0 0) (ex_load rfl (load1 (nagg_27 _) (St.cell S1 (i := 0) rfl rfl))) ?_
  simp only [pS, pN, pA, pC, pZ]
  refine ws_do rfl (.pointer none) (ex_sdataN rfl) ?_
  simp only [pS, pN, pA, pC, pZ]
  refine ws_do rfl (.pointer (some ⟨b, 0, none⟩)) (ex_move _) ?_
  simp only [pS, pN, pA, pC, pZ]
  refine ws_do rfl (.pointer (some ⟨b, 0, none⟩)) (ex_nil rfl) ?_
  simp only [pS, pN, pA, pC, pZ]
  refine ws_do rfl (.pointer (some ⟨b, 1, none⟩)) (ex_field (q := ⟨b, 1, none⟩) rfl (fa_builder_1 _)) ?_
  simp only [pS, pN, pA, pC, pZ]
  refine ws_do rfl (.slice none 0 0) (ex_load rfl (load1 (nagg_27 _) (St.cell S1 (i := 0) rfl rfl))) ?_
  simp only [pS, pN, pA, pC, pZ]
  refine ws_do rfl (.int .i64 0) (ex_len Tryd.underlying27 rfl) ?_
  simp only [pS, pN, pA, pC, pZ]
  refine wpStill_nil ?_
  simp only [List.drop_succ_cons, List.drop_zero]
  refine do_ rfl (strV []) (ex_ustr (u := .pointer none) (v := .int .i64 0) rfl rfl (Lib.run_unsafeString_none _ _ _ _ none)) ?_
  simp only [pS, pN, pA, pC, pZ]
  refine do_ rfl (strV []) (ex_assign _) ?_
  simp only [pS, pN, pA, pC, pZ]
  refine wl_nil (hK2 _ _ ?_)
  refine wp_ret ?_
  (try simp only [Exit.then, Exit.inBlock, ↓reduceIte, Nat.reduceEqDiff])
  refine bodyPost_ret (v := strV []) ?_ rfl ?_
  · exact res_t rfl rfl
  · exact And.intro rfl S1
set_option maxHeartbeats 8000000 in
theorem string_own {w0 w : World} {F0 F : Fz} {L0 : List Blk} {M0 : List RowP} {b : Nat} {p v : Value} {l : By} (S : St w0 F0 w F (⟨b, [p, v], 69⟩ :: L0) (ownP 1 ByC ByC.mono 5 w0.heap.size v l :: M0)) (hl : l ≠ []) :
    Calls Tryd.prog 28 #[.pointer (some ⟨b, 0, none⟩)] w fun e w' => e = .returned (strV l) ∧ St w0 F0 w' F (⟨b, [p, v], 69⟩ :: L0) M0 := by
  obtain ⟨g, cap, rfl, hn1, hn2, _⟩ := (S.own (i := 0) rfl).form (List.length_pos_iff.2 hl)
  have hpos := List.length_pos_iff.2 hl
  unfold maxLen at hn2
  go_enter Tryd.func28, Tryd.ntmps28
  have S1 : St w0 F0 w.drew F (⟨b, [p, .slice (some ⟨g, 0, none⟩) l.length cap], 69⟩ :: L0) (ownP 1 ByC ByC.mono 5 w0.heap.size (.slice (some ⟨g, 0, none⟩) l.length cap) l :: M0) := S.tells (Below.refl _ _).drew
  obtain ⟨c, el, S2, hn, hcp, hmx, hcl, htk, hall, hlen, hbg⟩ := St.rowBlk (r := 0) S1 rfl
  have S2 : St w0 F0 w.drew F (⟨g, c, 5⟩ :: ⟨b, [p, .slice (some ⟨g, 0, none⟩) l.length cap], 69⟩ :: L0) M0 := S2
  have hgb := (S2.blk _ (List.mem_cons_self ..)).1
  simp only at hgb
  have hrun := Lib.run_unsafeString_row (P := Tryd.prog) (w := w.drew) 108 3 9 5 (by kernel_rfl) lExtra.cellsByte g c.length (by simp [World.shape?, hgb]) l hl (by rw [hcl]; omega) (by omega) (fun j x hx => by
    have hj := (List.getElem?_eq_some_iff.1 hx).1
    have e1 : (c.take (l.length * 1))[j]? = some (bv x) := by rw [htk, bytes_of hall, List.getElem?_map, hx]; rfl
    rw [List.getElem?_take] at e1
    split at e1
    · have := St.cell S2 (i := 0) rfl e1
      rw [Addr.add_lit, Nat.zero_add]
      exact this
    · cases e1)
  have S3 : St w0 F0 (w.drew.freeze ⟨g, 0, none⟩ l.length) F (⟨b, [p, .slice (some ⟨g, 0, none⟩) l.length cap], 69⟩ :: L0) M0 := by
    have e : w.drew.freeze ⟨g, 0, none⟩ l.length = { w.drew with heap := (w.drew.freeze ⟨g, 0, none⟩ l.length).heap } := by unfold World.freeze; rw [if_neg (by omega)]
    refine S2.touch (fun k hk => ?_) ?_ (by rw [e]) (by rw [e]) (by rw [e])
    · unfold World.freeze
      rw [if_neg (by omega)]
      simp only
      rw [Array.getElem?_modify, if_neg (fun e => hk e.symm)]
    · unfold World.freeze
      rw [if_neg (by omega)]
      simp
  refine wp_seq_k (fun K1 hK1 => region_wl ?_)
  refine do_ rfl (strV []) (ex_assign _) ?_
  simp only [pS, pN, pA, pC, pZ]
  refine wl_nil (hK1 _ _ ?_)
  refine wp_seq_k (fun K2 hK2 => ?_)
  refine region_still 10 (by kernel_rfl) (by kernel_rfl) ?_
  simp only [List.take_succ_cons, List.take_zero]
  refine ws_do rfl (.pointer (some ⟨b, 0, none⟩)) (ex_move _) ?_
  simp only [pS, pN, pA, pC, pZ]
  refine ws_do rfl (.pointer (some ⟨b, 0, none⟩)) (ex_nil rfl) ?_
  simp only [pS, pN, pA, pC, pZ]
  refine ws_do rfl (.pointer (some ⟨b, 1, none⟩)) (ex_field (q := ⟨b, 1, none⟩) rfl (fa_builder_1 _)) ?_
  simp only [pS, pN, pA, pC, pZ]
  refine ws_do rfl (.slice (some ⟨g, 0, none⟩) l.length cap) (ex_load rfl (load1 (nagg_27 _) (St.cell S1 (i := 0) rfl rfl))) ?_
  simp only [pS, pN, pA, pC, pZ]
  refine ws_do rfl (.pointer (some ⟨g, 0, none⟩)) (ex_sdata rfl (by omega)) ?_
  simp only [pS, pN, pA, pC, pZ]
  refine ws_do rfl (.pointer (some ⟨b, 0, none⟩)) (ex_move _) ?_
  simp only [pS, pN, pA, pC, pZ]
  refine ws_do rfl (.pointer (some ⟨b, 0, none⟩)) (ex_nil rfl) ?_
  simp only [pS, pN, pA, pC, pZ]
  refine ws_do rfl (.pointer (some ⟨b, 1, none⟩)) (ex_field (q := ⟨b, 1, none⟩) rfl (fa_builder_1 _)) ?_
  simp only [pS, pN, pA, pC, pZ]
  refine ws_do rfl (.slice (some ⟨g, 0, none⟩) l.length cap) (ex_load rfl (load1 (nagg_27 _) (St.cell S1 (i := 0) rfl rfl))) ?_
  simp only [pS, pN, pA, pC, pZ]
  refine ws_do rfl (.int .i64 (l.length : Nat)) (ex_len Tryd.underlying27 rfl) ?_
  simp only [pS, pN, pA, pC, pZ]
  refine wpStill_nil ?_
  simp only [List.drop_succ_cons, List.drop_zero]
  refine do_ rfl (strV l) (ex_ustr rfl rfl hrun) ?_
  simp only [pS, pN, pA, pC, pZ]
  refine do_ rfl (strV l) (ex_assign _) ?_
  simp only [pS, pN, pA, pC, pZ]
  refine wl_nil (hK2 _ _ ?_)
  refine wp_ret ?_
  (try simp only [Exit.then, Exit.inBlock, ↓reduceIte, Nat.reduceEqDiff])
  refine bodyPost_ret (v := strV l) ?_ rfl ?_
  · exact res_t rfl rfl
  · exact And.intro rfl S3
end Go.Proofs.YtajmjolgphadoaaDoor
namespace Go.Proofs.YtajmjolgphadoaaDoor
open Go.RowKit
set_option linter.unusedVariables false
set_option linter.unusedSimpArgs false
set_option maxRecDepth 100000
section
variable {P : Program} {ρ : Operand → Value} {w : World} {d : Option Tmp} {t : TypeId} {pos : String} {after : Array Edge} {guard : Option (Nat × Bool)} {x y : Operand} {X Y : TypeId}
theorem ex_addS {l m : By} (hx : ρ x = strV l) (hy : ρ y = strV m) (hlm : l.length + m.length ≤ 1000000000) : (execOp ρ ⟨d, .binOp .add X x y Y, t, pos, after, guard⟩).run P w = .ok (.value (strV (l ++ m))) w := by
  have e : (eqGuard .add X x y (strV l) (strV m)).run P w = .ok () w := rfl
  have h : (binOp .add X (strV l) (strV m)).run P w = .ok (strV (l ++ m)) w := by
    have e3 : ((⟨l.toArray⟩ : ByteArray) ++ ⟨m.toArray⟩) = ⟨(l ++ m).toArray⟩ := by
      apply ByteArray.ext
      simp
    have h1 := size_str l
    have h2 := size_str m
    have hmax : IntKind.i64.max = 9223372036854775807 := rfl
    have hn : ¬ (((⟨l.toArray⟩ : ByteArray).size + (⟨m.toArray⟩ : ByteArray).size : Nat) : Int) > IntKind.i64.max := by rw [h1, h2, hmax]; omega
    show (Op.stringOp .add ⟨l.toArray⟩ ⟨m.toArray⟩).run P w = _
    simp only [Op.stringOp]
    rw [if_neg hn, e3]
    rfl
  simp only [execOp, hx, hy, Sem.run_bind, e, Result.andThen_ok, h, Sem.run_pure]
/-- text[l:h] -/
theorem ex_cutS {s : By} {lo hi : Option Operand} {l h : Nat} {k k' : IntKind} (hX : P.underlying X = some .string) (hx : ρ x = strV s)
    (hl : (lo = none ∧ l = 0) ∨ ∃ q, lo = some q ∧ ρ q = .int k (l : Int)) (hh : (hi = none ∧ h = s.length) ∨ ∃ q, hi = some q ∧ ρ q = .int k' (h : Int)) (h1 : l ≤ h) (h2 : h ≤ s.length) :
    (execOp ρ ⟨d, .slice X x lo hi none, t, pos, after, guard⟩).run P w = .ok (.value (strV ((s.drop l).take (h - l)))) w := by
  have hsz := size_str s
  have b1 : ∀ (k : IntKind) (z y : Nat) (code : BoundsCode), z ≤ y → (Instr.sliceBound (.int k z) y code).run P w = .ok z w := by
    intro k z y code hzy
    have : (0 : Int) ≤ (z : Int) ∧ (z : Int) ≤ (y : Int) := by omega
    simp [Instr.sliceBound, asIntOf, this]
  have hb : (Instr.sliceBounds false s.length s.length (lo.map ρ) (hi.map ρ) none).run P w = .ok (l, h, s.length) w := by
    rcases hl with ⟨rfl, rfl⟩ | ⟨q, rfl, hq⟩ <;> rcases hh with ⟨rfl, rfl⟩ | ⟨q', rfl, hq'⟩
    · simp [Instr.sliceBounds]
    · simp [Instr.sliceBounds, hq', b1 _ _ _ _ h2]
    · simp [Instr.sliceBounds, hq, b1 _ _ _ _ h1]
    · simp [Instr.sliceBounds, hq', hq, b1 _ _ _ _ h2, b1 _ _ _ _ h1]
  have hs : (Instr.sliceAt X (strV s) (lo.map ρ) (hi.map ρ) none).run P w = .ok (strV ((s.drop l).take (h - l))) w := by
    have e : (⟨s.toArray⟩ : ByteArray).extract l h = ⟨((s.drop l).take (h - l)).toArray⟩ := by
      apply ByteArray.ext
      simp [ByteArray.data_extract, List.extract_toArray, List.extract_eq_take_drop]
    simp [Instr.sliceAt, Sem.run_bind, run_underlying hX w, Instr.slice, hsz, hb, e]
  simp [execOp, hx, hs]
theorem ex_shr4 {b : UInt8} (hx : ρ x = bv b) (hy : ρ y = .int .u64 4) : (execOp ρ ⟨d, .binOp .shr X x y Y, t, pos, after, guard⟩).run P w = .ok (.value (bv (b >>> 4))) w := by
  have e : (eqGuard .shr X x y (bv b) (.int .u64 4)).run P w = .ok () w := rfl
  have h : (binOp .shr X (bv b) (.int .u64 4)).run P w = .ok (bv (b >>> 4)) w := by
    show (Op.shift .shr .u8 (b.toNat : Int) .u64 4).run P w = _
    unfold Op.shift
    rw [if_neg (by omega)]
    show Result.ok (Value.int .u8 (Int.fdiv (b.toNat : Int) (2 ^ 4))) w = _
    unfold bv
    congr 2
    rw [UInt8.toNat_shiftRight]
    simp [Nat.shiftRight_eq_div_pow, Int.fdiv_eq_ediv_of_nonneg]
  simp only [execOp, hx, hy, Sem.run_bind, e, Result.andThen_ok, h, Sem.run_pure]
theorem ex_and15 {b : UInt8} (hx : ρ x = bv b) (hy : ρ y = .int .u8 15) : (execOp ρ ⟨d, .binOp .and X x y Y, t, pos, after, guard⟩).run P w = .ok (.value (bv (b &&& 15))) w := by
  have h : (binOp .and X (bv b) (.int .u8 15)).run P w = .ok (bv (b &&& 15)) w := by
    have key : ∀ i : Fin 256, IntKind.u8.wrap ((BitVec.ofInt 8 ((UInt8.ofNat i.val).toNat : Int) &&& BitVec.ofInt 8 15).toNat : Int) = (((UInt8.ofNat i.val) &&& 15).toNat : Int) := by decide +kernel
    have := key ⟨b.toNat, UInt8.toNat_lt b⟩
    simp only [UInt8.ofNat_toNat] at this
    show Result.ok (Value.int .u8 (IntKind.u8.wrap ((BitVec.ofInt 8 (b.toNat : Int) &&& BitVec.ofInt 8 15).toNat : Int))) w = _
    rw [this]; rfl
  exact ex_bin hx hy h
theorem ex_inc {b : UInt8} (hx : ρ x = bv b) (hy : ρ y = .int .u8 1) (hb : b.toNat < 255) : (execOp ρ ⟨d, .binOp .add X x y Y, t, pos, after, guard⟩).run P w = .ok (.value (.int .u8 ((b.toNat + 1 : Nat) : Int))) w := by
  refine ex_bin hx hy ?_
  show Result.ok (Value.int .u8 (IntKind.u8.wrap ((b.toNat : Int) + 1))) w = _
  rw [show IntKind.u8.wrap ((b.toNat : Int) + 1) = ((b.toNat : Int) + 1) % 256 from rfl]
  congr 2
  omega
end
end Go.Proofs.YtajmjolgphadoaaDoor
