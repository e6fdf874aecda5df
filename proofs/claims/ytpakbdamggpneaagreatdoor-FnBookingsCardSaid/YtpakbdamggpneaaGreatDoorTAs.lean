/- A part of a proof: walks of functions and lemmas of our own. No conditions. -/
import Derived.Shelf.Strings.Builder1
import Derived.Shelf.Strings.Builder2
import Derived.Shelf.Strings.OnBuilder
import Derived.Shelf.Small.Strs
import Derived.Shelf.Small.Wraps
import Derived.Shelf.Strings.BuilderF
import Derived.Shelf.Utf8.RuneCount
import Derived.Shelf.Strconv.Itoa0
import Derived.Shelf.Strconv.Itoa1
import Derived.Shelf.LaysM
import Derived.Shelf.Strconv.Itoa2
import Derived.Shelf.Strconv.Itoa3
import Derived.Shelf.Strconv.Itoa4
import Derived.Shelf.Strconv.ParseIntEmpty
import Derived.Shelf.Strconv.Clone
import Derived.Shelf.Strconv.SyntaxError
import Derived.Shelf.LaysC
import Derived.Shelf.Strconv.ToError
import Derived.Shelf.Strconv.Lower
import Derived.Shelf.Strconv.ParseUint10
import Derived.Shelf.Strconv.ParseUint10Empty
import Derived.Shelf.Strconv.ParseUint10Any
import Derived.Shelf.Strconv.ParseInt10
import Derived.Shelf.Strconv.RangeError
import Derived.Shelf.Strconv.ToErrorRange
import Derived.Shelf.Strconv.ParseUintEmpty
import Derived.Shelf.Strconv.ParseUint10b64
import Derived.Shelf.Strconv.ParseUint10b32
import Derived.Shelf.Strconv.ParseUint10b16
import Derived.Shelf.Strconv.ParseUint10b8
import Derived.Shelf.Strconv.ParseUint10At
import Derived.Shelf.Strconv.ParseInt10At64
import Derived.Shelf.Strconv.ParseInt10At32
import Derived.Shelf.Strconv.ParseInt10At16
import Derived.Shelf.Strconv.ParseInt10At8
import Derived.Shelf.Strconv.ParseInt10All
import Derived.Shelf.Strconv.ParseIntPublic10
import Derived.Shelf.Strconv.ErrVarParseInt
import Derived.Shelf.Strings.Search1
import Derived.Shelf.Strings.Search2
import Derived.Shelf.Strings.Search3
import Derived.Shelf.Strings.Cut
import Derived.Shelf.Strings.Count
import Derived.Shelf.Strings.Shaped
import Derived.Shelf.Strings.Prefix
import Derived.Shelf.Strings.Split
import Derived.Shelf.Strings.SplitShaped
import Derived.Shelf.Unicode.Decode
import Derived.Shelf.Strings.RuneCount
import Derived.Shelf.Strings.Explode
import Derived.Shelf.Bits.Mul64
import Derived.Shelf.Strings.Repeat
import Derived.Shelf.Unicode.DecodeSlow
import Derived.Shelf.Unicode.DecodeAny
import Derived.Test.YtpakbdamggpneaaGreatDoorProg
import Derived.Test.YtpakbdamggpneaaGreatDoorTAr
import Derived.Below
import Derived.Test.YtpakbdamggpneaaGreatDoorTAk
import Derived.Lib.ParseIntBTie
import Derived.Handy
import Derived.WideShapes
import Derived.ProofKit
import Derived.Test.YtpakbdamggpneaaGreatDoorTAn
import Derived.Test.YtpakbdamggpneaaGreatDoorTAq
import Derived.Test.YtpakbdamggpneaaGreatDoorTAo
import Derived.Test.YtpakbdamggpneaaGreatDoorTAg
import Derived.Lib.Split
import Derived.Lib.IndexLaws
import Derived.Lib.IndexBytes
import Derived.Lib.CountLaws
import Derived.Test.YtpakbdamggpneaaGreatDoorTAi
set_option linter.unusedSectionVars false
set_option linter.unusedVariables false
set_option linter.unusedSimpArgs false
namespace Go.Proofs
open Go.Shelf
def Tryz.lays156_ren : Go.Shelf.Ren := ⟨fun | 156 => 142 | 165 => 161 | 166 => 162 | 169 => 164 | 240 => 195 | 241 => 196 | 276 => 213 | 277 => 214 | n => n, fun | 31 => 57 | 9 => 9 | 3 => 3 | 4 => 4 | 0 => 0 | 20 => 20 | 72 => 158 | 76 => 160 | 70 => 156 | 37 => 22 | 75 => 88 | 127 => 185 | 164 => 198 | 5 => 5 | 80 => 114 | n => n, fun | n => n⟩
theorem Tryz.lays156 : Go.Proofs.Lays.n156 Tryz.prog Tryz.lays156_ren := {
  mixed := by kernel_rfl
  f156 := Tryz.func142.trans (congrArg some (by kernel_rfl))
  f165 := Tryz.func161.trans (congrArg some (by kernel_rfl))
  f166 := Tryz.func162.trans (congrArg some (by kernel_rfl))
  f169 := Tryz.func164.trans (congrArg some (by kernel_rfl))
  f240 := Tryz.func195.trans (congrArg some (by kernel_rfl))
  f241 := Tryz.func196.trans (congrArg some (by kernel_rfl))
  f276 := Tryz.func213.trans (congrArg some (by kernel_rfl))
  f277 := Tryz.func214.trans (congrArg some (by kernel_rfl))
  t0 := Tryz.underlying0
  a0 := Tryz.isAgg0
  z0 := Tryz.sizeOf0
  v0 := Tryz.zeroValue0
  t3 := Tryz.underlying3
  a3 := Tryz.isAgg3
  z3 := Tryz.sizeOf3
  v3 := Tryz.zeroValue3
  t4 := Tryz.underlying4
  a4 := Tryz.isAgg4
  z4 := Tryz.sizeOf4
  v4 := Tryz.zeroValue4
  t9 := Tryz.underlying9
  a9 := Tryz.isAgg9
  z9 := Tryz.sizeOf9
  v9 := Tryz.zeroValue9
  t20 := Tryz.underlying20
  a20 := Tryz.isAgg20
  z20 := Tryz.sizeOf20
  v20 := Tryz.zeroValue20
  t31 := Tryz.underlying57
  a31 := Tryz.isAgg57
  z31 := Tryz.sizeOf57
  v31 := Tryz.zeroValue57
  t37 := Tryz.underlying22
  a37 := Tryz.isAgg22
  z37 := Tryz.sizeOf22
  v37 := Tryz.zeroValue22
  t70 := Tryz.underlying156
  a70 := Tryz.isAgg156
  z70 := Tryz.sizeOf156
  v70 := Tryz.zeroValue156
  t72 := Tryz.underlying158
  a72 := Tryz.isAgg158
  z72 := Tryz.sizeOf158
  v72 := Tryz.zeroValue158
  t75 := Tryz.underlying88
  a75 := Tryz.isAgg88
  z75 := Tryz.sizeOf88
  v75 := Tryz.zeroValue88
  t76 := Tryz.underlying160
  a76 := Tryz.isAgg160
  z76 := Tryz.sizeOf160
  v76 := Tryz.zeroValue160
  t127 := Tryz.underlying185
  a127 := Tryz.isAgg185
  z127 := Tryz.sizeOf185
  v127 := Tryz.zeroValue185
  t164 := Tryz.underlying198
  a164 := Tryz.isAgg198
  z164 := Tryz.sizeOf198
  v164 := Tryz.zeroValue198 }
theorem Tryz.Builder_Extra_156 : Builder.Extra Tryz.prog Tryz.lays156_ren := {
  sizeBuilder := by kernel_rfl
  liesBuilder := by kernel_rfl
  t5 := Tryz.underlying5
  a5 := Tryz.isAgg5
  z5 := Tryz.sizeOf5
  v5 := Tryz.zeroValue5
  infoByte := by kernel_rfl
  cellsByte := by kernel_rfl
  sizeByte := by kernel_rfl
  neB5 := by decide }
def Tryz.lays137_ren : Go.Shelf.Ren := ⟨fun | 137 => 134 | 217 => 180 | 266 => 209 | n => n, fun | 9 => 9 | 5 => 5 | 3 => 3 | n => n, fun | n => n⟩
theorem Tryz.lays137 : Go.Proofs.Lays.n137 Tryz.prog Tryz.lays137_ren := {
  mixed := by kernel_rfl
  f137 := Tryz.func134.trans (congrArg some (by kernel_rfl))
  f217 := Tryz.func180.trans (congrArg some (by kernel_rfl))
  f266 := Tryz.func209.trans (congrArg some (by kernel_rfl))
  t3 := Tryz.underlying3
  a3 := Tryz.isAgg3
  z3 := Tryz.sizeOf3
  v3 := Tryz.zeroValue3
  t5 := Tryz.underlying5
  a5 := Tryz.isAgg5
  z5 := Tryz.sizeOf5
  v5 := Tryz.zeroValue5
  t9 := Tryz.underlying9
  a9 := Tryz.isAgg9
  z9 := Tryz.sizeOf9
  v9 := Tryz.zeroValue9 }
def Tryz.lays104_ren : Go.Shelf.Ren := ⟨fun | 104 => 89 | 211 => 132 | 207 => 133 | n => n, fun | 9 => 9 | 4 => 4 | 24 => 110 | 3 => 3 | n => n, fun | n => n⟩
theorem Tryz.lays104 : Go.Proofs.Lays.n104 Tryz.prog Tryz.lays104_ren := {
  mixed := by kernel_rfl
  f104 := Tryz.func89.trans (congrArg some (by kernel_rfl))
  f207 := Tryz.func133.trans (congrArg some (by kernel_rfl))
  f211 := Tryz.func132.trans (congrArg some (by kernel_rfl))
  t3 := Tryz.underlying3
  a3 := Tryz.isAgg3
  z3 := Tryz.sizeOf3
  v3 := Tryz.zeroValue3
  t4 := Tryz.underlying4
  a4 := Tryz.isAgg4
  z4 := Tryz.sizeOf4
  v4 := Tryz.zeroValue4
  t9 := Tryz.underlying9
  a9 := Tryz.isAgg9
  z9 := Tryz.sizeOf9
  v9 := Tryz.zeroValue9
  t24 := Tryz.underlying110
  a24 := Tryz.isAgg110
  z24 := Tryz.sizeOf110
  v24 := Tryz.zeroValue110 }
def Tryz.laysM173_ren : Go.Shelf.Ren := ⟨fun | 173 => 71 | 246 => 116 | 283 => 165 | 284 => 166 | 285 => 167 | 286 => 168 | 129 => 198 | 317 => 197 | 318 => 199 | 319 => 200 | 320 => 201 | 337 => 215 | 338 => 216 | n => n, fun | 2 => 2 | 3 => 3 | 9 => 9 | 4 => 4 | 171 => 164 | 0 => 0 | 53 => 79 | 37 => 22 | 5 => 5 | 173 => 167 | 212 => 187 | 51 => 180 | 20 => 20 | 213 => 188 | 46 => 139 | 232 => 206 | 233 => 207 | n => n, fun | 17 => 3 | 18 => 6 | 19 => 7 | n => n⟩
theorem Tryz.laysM173 : Go.Proofs.LaysM.n173 Tryz.prog Tryz.laysM173_ren := {
  mixed := by kernel_rfl
  f129 := Tryz.func198.trans (congrArg some (by kernel_rfl))
  f173 := Tryz.func71.trans (congrArg some (by kernel_rfl))
  f246 := Tryz.func116.trans (congrArg some (by kernel_rfl))
  f283 := Tryz.func165.trans (congrArg some (by kernel_rfl))
  f284 := Tryz.func166.trans (congrArg some (by kernel_rfl))
  f285 := Tryz.func167.trans (congrArg some (by kernel_rfl))
  f286 := Tryz.func168.trans (congrArg some (by kernel_rfl))
  f317 := Tryz.func197.trans (congrArg some (by kernel_rfl))
  f318 := Tryz.func199.trans (congrArg some (by kernel_rfl))
  f319 := Tryz.func200.trans (congrArg some (by kernel_rfl))
  f320 := Tryz.func201.trans (congrArg some (by kernel_rfl))
  f337 := Tryz.func215.trans (congrArg some (by kernel_rfl))
  f338 := Tryz.func216.trans (congrArg some (by kernel_rfl))
  t0 := Tryz.underlying0
  a0 := Tryz.isAgg0
  z0 := Tryz.sizeOf0
  v0 := Tryz.zeroValue0
  t2 := Tryz.underlying2
  a2 := Tryz.isAgg2
  z2 := Tryz.sizeOf2
  v2 := Tryz.zeroValue2
  t3 := Tryz.underlying3
  a3 := Tryz.isAgg3
  z3 := Tryz.sizeOf3
  v3 := Tryz.zeroValue3
  t4 := Tryz.underlying4
  a4 := Tryz.isAgg4
  z4 := Tryz.sizeOf4
  v4 := Tryz.zeroValue4
  t5 := Tryz.underlying5
  a5 := Tryz.isAgg5
  z5 := Tryz.sizeOf5
  v5 := Tryz.zeroValue5
  t9 := Tryz.underlying9
  a9 := Tryz.isAgg9
  z9 := Tryz.sizeOf9
  v9 := Tryz.zeroValue9
  t20 := Tryz.underlying20
  a20 := Tryz.isAgg20
  z20 := Tryz.sizeOf20
  v20 := Tryz.zeroValue20
  t37 := Tryz.underlying22
  a37 := Tryz.isAgg22
  z37 := Tryz.sizeOf22
  v37 := Tryz.zeroValue22
  t46 := Tryz.underlying139
  a46 := Tryz.isAgg139
  z46 := Tryz.sizeOf139
  v46 := Tryz.zeroValue139
  t51 := Tryz.underlying180
  a51 := Tryz.isAgg180
  z51 := Tryz.sizeOf180
  v51 := Tryz.zeroValue180
  t53 := Tryz.underlying79
  a53 := Tryz.isAgg79
  z53 := Tryz.sizeOf79
  v53 := Tryz.zeroValue79
  t171 := Tryz.underlying164
  a171 := Tryz.isAgg164
  z171 := Tryz.sizeOf164
  v171 := Tryz.zeroValue164
  t173 := Tryz.underlying167
  a173 := Tryz.isAgg167
  z173 := Tryz.sizeOf167
  v173 := Tryz.zeroValue167
  t212 := Tryz.underlying187
  a212 := Tryz.isAgg187
  z212 := Tryz.sizeOf187
  v212 := Tryz.zeroValue187
  t213 := Tryz.underlying188
  a213 := Tryz.isAgg188
  z213 := Tryz.sizeOf188
  t232 := Tryz.underlying206
  a232 := Tryz.isAgg206
  z232 := Tryz.sizeOf206
  v232 := Tryz.zeroValue206
  t233 := Tryz.underlying207
  a233 := Tryz.isAgg207
  z233 := Tryz.sizeOf207
  v233 := Tryz.zeroValue207
  g17 := by kernel_rfl
  g18 := by kernel_rfl
  g19 := by kernel_rfl
  i0 := by kernel_rfl
  i2 := by kernel_rfl
  i3 := by kernel_rfl
  i4 := by kernel_rfl
  i5 := by kernel_rfl
  i9 := by kernel_rfl
  i20 := by kernel_rfl
  i37 := by kernel_rfl
  i46 := by kernel_rfl
  i51 := by kernel_rfl
  i53 := by kernel_rfl
  i171 := by kernel_rfl
  i173 := by kernel_rfl
  i212 := by kernel_rfl
  i232 := by kernel_rfl
  i233 := by kernel_rfl
  m17 := by kernel_rfl
  m18 := by kernel_rfl
  m19 := by kernel_rfl }
def Tryz.laysC174_ren : Go.Shelf.Ren := ⟨fun | 174 => 66 | 247 => 111 | 245 => 112 | 287 => 154 | 279 => 155 | 280 => 156 | 281 => 157 | 282 => 158 | 321 => 188 | 322 => 189 | 316 => 190 | 171 => 192 | 205 => 191 | 243 => 212 | 246 => 116 | 283 => 165 | 284 => 166 | 285 => 167 | 286 => 168 | 129 => 198 | 317 => 197 | 318 => 199 | 319 => 200 | 320 => 201 | 337 => 215 | 338 => 216 | n => n, fun | 9 => 9 | 3 => 3 | 2 => 2 | 75 => 88 | 85 => 89 | 4 => 4 | 167 => 148 | 5 => 5 | 53 => 79 | 175 => 149 | 46 => 139 | 168 => 151 | 37 => 22 | 0 => 0 | 210 => 178 | 21 => 21 | 127 => 185 | 145 => 197 | 143 => 195 | 171 => 164 | 173 => 167 | 212 => 187 | 51 => 180 | 20 => 20 | 213 => 188 | 232 => 206 | 233 => 207 | 80 => 114 | n => n, fun | 15 => 1 | 16 => 2 | 17 => 3 | 18 => 6 | 19 => 7 | n => n⟩
theorem Tryz.laysC174 : Go.Proofs.LaysC.n174 Tryz.prog Tryz.laysC174_ren := {
  mixed := by kernel_rfl
  f129 := Tryz.func198.trans (congrArg some (by kernel_rfl))
  f171 := Tryz.func192.trans (congrArg some (by kernel_rfl))
  f174 := Tryz.func66.trans (congrArg some (by kernel_rfl))
  f205 := Tryz.func191.trans (congrArg some (by kernel_rfl))
  f243 := Tryz.func212.trans (congrArg some (by kernel_rfl))
  f245 := Tryz.func112.trans (congrArg some (by kernel_rfl))
  f246 := Tryz.func116.trans (congrArg some (by kernel_rfl))
  f247 := Tryz.func111.trans (congrArg some (by kernel_rfl))
  f279 := Tryz.func155.trans (congrArg some (by kernel_rfl))
  f280 := Tryz.func156.trans (congrArg some (by kernel_rfl))
  f281 := Tryz.func157.trans (congrArg some (by kernel_rfl))
  f282 := Tryz.func158.trans (congrArg some (by kernel_rfl))
  f283 := Tryz.func165.trans (congrArg some (by kernel_rfl))
  f284 := Tryz.func166.trans (congrArg some (by kernel_rfl))
  f285 := Tryz.func167.trans (congrArg some (by kernel_rfl))
  f286 := Tryz.func168.trans (congrArg some (by kernel_rfl))
  f287 := Tryz.func154.trans (congrArg some (by kernel_rfl))
  f316 := Tryz.func190.trans (congrArg some (by kernel_rfl))
  f317 := Tryz.func197.trans (congrArg some (by kernel_rfl))
  f318 := Tryz.func199.trans (congrArg some (by kernel_rfl))
  f319 := Tryz.func200.trans (congrArg some (by kernel_rfl))
  f320 := Tryz.func201.trans (congrArg some (by kernel_rfl))
  f321 := Tryz.func188.trans (congrArg some (by kernel_rfl))
  f322 := Tryz.func189.trans (congrArg some (by kernel_rfl))
  f337 := Tryz.func215.trans (congrArg some (by kernel_rfl))
  f338 := Tryz.func216.trans (congrArg some (by kernel_rfl))
  t0 := Tryz.underlying0
  a0 := Tryz.isAgg0
  z0 := Tryz.sizeOf0
  v0 := Tryz.zeroValue0
  t2 := Tryz.underlying2
  a2 := Tryz.isAgg2
  z2 := Tryz.sizeOf2
  v2 := Tryz.zeroValue2
  t3 := Tryz.underlying3
  a3 := Tryz.isAgg3
  z3 := Tryz.sizeOf3
  v3 := Tryz.zeroValue3
  t4 := Tryz.underlying4
  a4 := Tryz.isAgg4
  z4 := Tryz.sizeOf4
  v4 := Tryz.zeroValue4
  t5 := Tryz.underlying5
  a5 := Tryz.isAgg5
  z5 := Tryz.sizeOf5
  v5 := Tryz.zeroValue5
  t9 := Tryz.underlying9
  a9 := Tryz.isAgg9
  z9 := Tryz.sizeOf9
  v9 := Tryz.zeroValue9
  t20 := Tryz.underlying20
  a20 := Tryz.isAgg20
  z20 := Tryz.sizeOf20
  v20 := Tryz.zeroValue20
  t21 := Tryz.underlying21
  a21 := Tryz.isAgg21
  z21 := Tryz.sizeOf21
  v21 := Tryz.zeroValue21
  t37 := Tryz.underlying22
  a37 := Tryz.isAgg22
  z37 := Tryz.sizeOf22
  v37 := Tryz.zeroValue22
  t46 := Tryz.underlying139
  a46 := Tryz.isAgg139
  z46 := Tryz.sizeOf139
  v46 := Tryz.zeroValue139
  t51 := Tryz.underlying180
  a51 := Tryz.isAgg180
  z51 := Tryz.sizeOf180
  v51 := Tryz.zeroValue180
  t53 := Tryz.underlying79
  a53 := Tryz.isAgg79
  z53 := Tryz.sizeOf79
  v53 := Tryz.zeroValue79
  t75 := Tryz.underlying88
  a75 := Tryz.isAgg88
  z75 := Tryz.sizeOf88
  v75 := Tryz.zeroValue88
  t85 := Tryz.underlying89
  a85 := Tryz.isAgg89
  z85 := Tryz.sizeOf89
  v85 := Tryz.zeroValue89
  t127 := Tryz.underlying185
  a127 := Tryz.isAgg185
  z127 := Tryz.sizeOf185
  v127 := Tryz.zeroValue185
  t143 := Tryz.underlying195
  a143 := Tryz.isAgg195
  z143 := Tryz.sizeOf195
  v143 := Tryz.zeroValue195
  t145 := Tryz.underlying197
  a145 := Tryz.isAgg197
  z145 := Tryz.sizeOf197
  v145 := Tryz.zeroValue197
  t167 := Tryz.underlying148
  a167 := Tryz.isAgg148
  z167 := Tryz.sizeOf148
  v167 := Tryz.zeroValue148
  t168 := Tryz.underlying151
  a168 := Tryz.isAgg151
  z168 := Tryz.sizeOf151
  v168 := Tryz.zeroValue151
  t171 := Tryz.underlying164
  a171 := Tryz.isAgg164
  z171 := Tryz.sizeOf164
  v171 := Tryz.zeroValue164
  t173 := Tryz.underlying167
  a173 := Tryz.isAgg167
  z173 := Tryz.sizeOf167
  v173 := Tryz.zeroValue167
  t175 := Tryz.underlying149
  a175 := Tryz.isAgg149
  z175 := Tryz.sizeOf149
  v175 := Tryz.zeroValue149
  t210 := Tryz.underlying178
  a210 := Tryz.isAgg178
  z210 := Tryz.sizeOf178
  v210 := Tryz.zeroValue178
  t212 := Tryz.underlying187
  a212 := Tryz.isAgg187
  z212 := Tryz.sizeOf187
  v212 := Tryz.zeroValue187
  t213 := Tryz.underlying188
  a213 := Tryz.isAgg188
  z213 := Tryz.sizeOf188
  t232 := Tryz.underlying206
  a232 := Tryz.isAgg206
  z232 := Tryz.sizeOf206
  v232 := Tryz.zeroValue206
  t233 := Tryz.underlying207
  a233 := Tryz.isAgg207
  z233 := Tryz.sizeOf207
  v233 := Tryz.zeroValue207
  g15 := by kernel_rfl
  g16 := by kernel_rfl
  g17 := by kernel_rfl
  g18 := by kernel_rfl
  g19 := by kernel_rfl
  t80 := Tryz.underlying114
  a80 := Tryz.isAgg114
  z80 := Tryz.sizeOf114
  v80 := Tryz.zeroValue114
  i0 := by kernel_rfl
  i2 := by kernel_rfl
  i3 := by kernel_rfl
  i4 := by kernel_rfl
  i5 := by kernel_rfl
  i9 := by kernel_rfl
  i20 := by kernel_rfl
  i21 := by kernel_rfl
  i37 := by kernel_rfl
  i46 := by kernel_rfl
  i51 := by kernel_rfl
  i53 := by kernel_rfl
  i75 := by kernel_rfl
  i80 := by kernel_rfl
  i85 := by kernel_rfl
  i127 := by kernel_rfl
  i143 := by kernel_rfl
  i145 := by kernel_rfl
  i167 := by kernel_rfl
  i168 := by kernel_rfl
  i171 := by kernel_rfl
  i173 := by kernel_rfl
  i175 := by kernel_rfl
  i210 := by kernel_rfl
  i212 := by kernel_rfl
  i232 := by kernel_rfl
  i233 := by kernel_rfl
  m15 := by kernel_rfl
  m16 := by kernel_rfl
  m17 := by kernel_rfl
  m18 := by kernel_rfl
  m19 := by kernel_rfl
  c0 := by kernel_rfl
  c2 := by kernel_rfl
  c3 := by kernel_rfl
  c4 := by kernel_rfl
  c5 := by kernel_rfl
  c9 := by kernel_rfl
  c20 := by kernel_rfl
  c21 := by kernel_rfl
  c37 := by kernel_rfl
  c46 := by kernel_rfl
  c51 := by kernel_rfl
  c53 := by kernel_rfl
  c75 := by kernel_rfl
  c80 := by kernel_rfl
  c85 := by kernel_rfl
  c127 := by kernel_rfl
  c143 := by kernel_rfl
  c145 := by kernel_rfl
  c167 := by kernel_rfl
  c168 := by kernel_rfl
  c171 := by kernel_rfl
  c173 := by kernel_rfl
  c175 := by kernel_rfl
  c210 := by kernel_rfl
  c212 := by kernel_rfl
  c213 := by kernel_rfl
  c232 := by kernel_rfl
  c233 := by kernel_rfl }
def Tryz.lays145_ren : Go.Shelf.Ren := ⟨fun | 145 => 45 | 220 => 88 | 219 => 131 | 217 => 180 | 225 => 181 | 224 => 182 | 267 => 183 | 266 => 209 | 314 => 210 | n => n, fun | 9 => 9 | 4 => 4 | 59 => 70 | 3 => 3 | 5 => 5 | 46 => 139 | 146 => 181 | 51 => 180 | n => n, fun | 1 => 0 | n => n⟩
theorem Tryz.lays145 : Go.Proofs.Lays.n145 Tryz.prog Tryz.lays145_ren := {
  mixed := by kernel_rfl
  f145 := Tryz.func45.trans (congrArg some (by kernel_rfl))
  f217 := Tryz.func180.trans (congrArg some (by kernel_rfl))
  f219 := Tryz.func131.trans (congrArg some (by kernel_rfl))
  f220 := Tryz.func88.trans (congrArg some (by kernel_rfl))
  f224 := Tryz.func182.trans (congrArg some (by kernel_rfl))
  f225 := Tryz.func181.trans (congrArg some (by kernel_rfl))
  f266 := Tryz.func209.trans (congrArg some (by kernel_rfl))
  f267 := Tryz.func183.trans (congrArg some (by kernel_rfl))
  f314 := Tryz.func210.trans (congrArg some (by kernel_rfl))
  t3 := Tryz.underlying3
  a3 := Tryz.isAgg3
  z3 := Tryz.sizeOf3
  v3 := Tryz.zeroValue3
  t4 := Tryz.underlying4
  a4 := Tryz.isAgg4
  z4 := Tryz.sizeOf4
  v4 := Tryz.zeroValue4
  t5 := Tryz.underlying5
  a5 := Tryz.isAgg5
  z5 := Tryz.sizeOf5
  v5 := Tryz.zeroValue5
  t9 := Tryz.underlying9
  a9 := Tryz.isAgg9
  z9 := Tryz.sizeOf9
  v9 := Tryz.zeroValue9
  t46 := Tryz.underlying139
  a46 := Tryz.isAgg139
  z46 := Tryz.sizeOf139
  v46 := Tryz.zeroValue139
  t51 := Tryz.underlying180
  a51 := Tryz.isAgg180
  z51 := Tryz.sizeOf180
  v51 := Tryz.zeroValue180
  t59 := Tryz.underlying70
  a59 := Tryz.isAgg70
  z59 := Tryz.sizeOf70
  v59 := Tryz.zeroValue70
  t146 := Tryz.underlying181
  a146 := Tryz.isAgg181
  z146 := Tryz.sizeOf181
  v146 := Tryz.zeroValue181
  g1 := by kernel_rfl }
def Tryz.lays101_ren : Go.Shelf.Ren := ⟨fun | 101 => 65 | 208 => 110 | 206 => 153 | n => n, fun | 9 => 9 | 4 => 4 | 3 => 3 | n => n, fun | n => n⟩
theorem Tryz.lays101 : Go.Proofs.Lays.n101 Tryz.prog Tryz.lays101_ren := {
  mixed := by kernel_rfl
  f101 := Tryz.func65.trans (congrArg some (by kernel_rfl))
  f206 := Tryz.func153.trans (congrArg some (by kernel_rfl))
  f208 := Tryz.func110.trans (congrArg some (by kernel_rfl))
  t3 := Tryz.underlying3
  a3 := Tryz.isAgg3
  z3 := Tryz.sizeOf3
  v3 := Tryz.zeroValue3
  t4 := Tryz.underlying4
  a4 := Tryz.isAgg4
  z4 := Tryz.sizeOf4
  v4 := Tryz.zeroValue4
  t9 := Tryz.underlying9
  a9 := Tryz.isAgg9
  z9 := Tryz.sizeOf9
  v9 := Tryz.zeroValue9 }
def Tryz.lays102_ren : Go.Shelf.Ren := ⟨fun | 102 => 48 | 209 => 92 | 207 => 133 | n => n, fun | 9 => 9 | 4 => 4 | 3 => 3 | n => n, fun | n => n⟩
theorem Tryz.lays102 : Go.Proofs.Lays.n102 Tryz.prog Tryz.lays102_ren := {
  mixed := by kernel_rfl
  f102 := Tryz.func48.trans (congrArg some (by kernel_rfl))
  f207 := Tryz.func133.trans (congrArg some (by kernel_rfl))
  f209 := Tryz.func92.trans (congrArg some (by kernel_rfl))
  t3 := Tryz.underlying3
  a3 := Tryz.isAgg3
  z3 := Tryz.sizeOf3
  v3 := Tryz.zeroValue3
  t4 := Tryz.underlying4
  a4 := Tryz.isAgg4
  z4 := Tryz.sizeOf4
  v4 := Tryz.zeroValue4
  t9 := Tryz.underlying9
  a9 := Tryz.isAgg9
  z9 := Tryz.sizeOf9
  v9 := Tryz.zeroValue9 }
def Tryz.lays146_ren : Go.Shelf.Ren := ⟨fun | 146 => 62 | 221 => 105 | 268 => 148 | 138 => 149 | 143 => 150 | 195 => 185 | 197 => 186 | 218 => 187 | 219 => 131 | 260 => 211 | 217 => 180 | 225 => 181 | 224 => 182 | 267 => 183 | 266 => 209 | 314 => 210 | n => n, fun | 9 => 9 | 31 => 57 | 3 => 3 | 4 => 4 | 0 => 0 | 105 => 174 | 21 => 21 | 5 => 5 | 46 => 139 | 119 => 202 | 139 => 205 | 138 => 204 | 146 => 181 | 51 => 180 | n => n, fun | 1 => 0 | 3 => 4 | 4 => 5 | n => n⟩
theorem Tryz.lays146 : Go.Proofs.Lays.n146 Tryz.prog Tryz.lays146_ren := {
  mixed := by kernel_rfl
  f138 := Tryz.func149.trans (congrArg some (by kernel_rfl))
  f143 := Tryz.func150.trans (congrArg some (by kernel_rfl))
  f146 := Tryz.func62.trans (congrArg some (by kernel_rfl))
  f195 := Tryz.func185.trans (congrArg some (by kernel_rfl))
  f197 := Tryz.func186.trans (congrArg some (by kernel_rfl))
  f217 := Tryz.func180.trans (congrArg some (by kernel_rfl))
  f218 := Tryz.func187.trans (congrArg some (by kernel_rfl))
  f219 := Tryz.func131.trans (congrArg some (by kernel_rfl))
  f221 := Tryz.func105.trans (congrArg some (by kernel_rfl))
  f224 := Tryz.func182.trans (congrArg some (by kernel_rfl))
  f225 := Tryz.func181.trans (congrArg some (by kernel_rfl))
  f260 := Tryz.func211.trans (congrArg some (by kernel_rfl))
  f266 := Tryz.func209.trans (congrArg some (by kernel_rfl))
  f267 := Tryz.func183.trans (congrArg some (by kernel_rfl))
  f268 := Tryz.func148.trans (congrArg some (by kernel_rfl))
  f314 := Tryz.func210.trans (congrArg some (by kernel_rfl))
  t0 := Tryz.underlying0
  a0 := Tryz.isAgg0
  z0 := Tryz.sizeOf0
  v0 := Tryz.zeroValue0
  t3 := Tryz.underlying3
  a3 := Tryz.isAgg3
  z3 := Tryz.sizeOf3
  v3 := Tryz.zeroValue3
  t4 := Tryz.underlying4
  a4 := Tryz.isAgg4
  z4 := Tryz.sizeOf4
  v4 := Tryz.zeroValue4
  t5 := Tryz.underlying5
  a5 := Tryz.isAgg5
  z5 := Tryz.sizeOf5
  v5 := Tryz.zeroValue5
  t9 := Tryz.underlying9
  a9 := Tryz.isAgg9
  z9 := Tryz.sizeOf9
  v9 := Tryz.zeroValue9
  t21 := Tryz.underlying21
  a21 := Tryz.isAgg21
  z21 := Tryz.sizeOf21
  v21 := Tryz.zeroValue21
  t31 := Tryz.underlying57
  a31 := Tryz.isAgg57
  z31 := Tryz.sizeOf57
  v31 := Tryz.zeroValue57
  t46 := Tryz.underlying139
  a46 := Tryz.isAgg139
  z46 := Tryz.sizeOf139
  v46 := Tryz.zeroValue139
  t51 := Tryz.underlying180
  a51 := Tryz.isAgg180
  z51 := Tryz.sizeOf180
  v51 := Tryz.zeroValue180
  t105 := Tryz.underlying174
  a105 := Tryz.isAgg174
  z105 := Tryz.sizeOf174
  v105 := Tryz.zeroValue174
  t119 := Tryz.underlying202
  a119 := Tryz.isAgg202
  z119 := Tryz.sizeOf202
  t138 := Tryz.underlying204
  a138 := Tryz.isAgg204
  z138 := Tryz.sizeOf204
  v138 := Tryz.zeroValue204
  t139 := Tryz.underlying205
  a139 := Tryz.isAgg205
  z139 := Tryz.sizeOf205
  v139 := Tryz.zeroValue205
  t146 := Tryz.underlying181
  a146 := Tryz.isAgg181
  z146 := Tryz.sizeOf181
  v146 := Tryz.zeroValue181
  g1 := by kernel_rfl
  g3 := by kernel_rfl
  g4 := by kernel_rfl }
def Tryz.lays105_ren : Go.Shelf.Ren := ⟨fun | 105 => 115 | 212 => 159 | 99 => 160 | 165 => 161 | 166 => 162 | 170 => 163 | 169 => 164 | 263 => 193 | 264 => 194 | 206 => 153 | 240 => 195 | 241 => 196 | 276 => 213 | 277 => 214 | n => n, fun | 9 => 9 | 3 => 3 | 4 => 4 | 20 => 20 | 0 => 0 | 46 => 139 | 109 => 154 | 5 => 5 | 72 => 158 | 76 => 160 | 51 => 180 | 146 => 181 | 53 => 79 | 148 => 183 | 70 => 156 | 37 => 22 | 75 => 88 | 127 => 185 | 164 => 198 | 80 => 114 | n => n, fun | n => n⟩
theorem Tryz.lays105 : Go.Proofs.Lays.n105 Tryz.prog Tryz.lays105_ren := {
  mixed := by kernel_rfl
  f99 := Tryz.func160.trans (congrArg some (by kernel_rfl))
  f105 := Tryz.func115.trans (congrArg some (by kernel_rfl))
  f165 := Tryz.func161.trans (congrArg some (by kernel_rfl))
  f166 := Tryz.func162.trans (congrArg some (by kernel_rfl))
  f169 := Tryz.func164.trans (congrArg some (by kernel_rfl))
  f170 := Tryz.func163.trans (congrArg some (by kernel_rfl))
  f206 := Tryz.func153.trans (congrArg some (by kernel_rfl))
  f212 := Tryz.func159.trans (congrArg some (by kernel_rfl))
  f240 := Tryz.func195.trans (congrArg some (by kernel_rfl))
  f241 := Tryz.func196.trans (congrArg some (by kernel_rfl))
  f263 := Tryz.func193.trans (congrArg some (by kernel_rfl))
  f264 := Tryz.func194.trans (congrArg some (by kernel_rfl))
  f276 := Tryz.func213.trans (congrArg some (by kernel_rfl))
  f277 := Tryz.func214.trans (congrArg some (by kernel_rfl))
  t0 := Tryz.underlying0
  a0 := Tryz.isAgg0
  z0 := Tryz.sizeOf0
  v0 := Tryz.zeroValue0
  t3 := Tryz.underlying3
  a3 := Tryz.isAgg3
  z3 := Tryz.sizeOf3
  v3 := Tryz.zeroValue3
  t4 := Tryz.underlying4
  a4 := Tryz.isAgg4
  z4 := Tryz.sizeOf4
  v4 := Tryz.zeroValue4
  t5 := Tryz.underlying5
  a5 := Tryz.isAgg5
  z5 := Tryz.sizeOf5
  v5 := Tryz.zeroValue5
  t9 := Tryz.underlying9
  a9 := Tryz.isAgg9
  z9 := Tryz.sizeOf9
  v9 := Tryz.zeroValue9
  t20 := Tryz.underlying20
  a20 := Tryz.isAgg20
  z20 := Tryz.sizeOf20
  v20 := Tryz.zeroValue20
  t37 := Tryz.underlying22
  a37 := Tryz.isAgg22
  z37 := Tryz.sizeOf22
  v37 := Tryz.zeroValue22
  t46 := Tryz.underlying139
  a46 := Tryz.isAgg139
  z46 := Tryz.sizeOf139
  v46 := Tryz.zeroValue139
  t51 := Tryz.underlying180
  a51 := Tryz.isAgg180
  z51 := Tryz.sizeOf180
  v51 := Tryz.zeroValue180
  t53 := Tryz.underlying79
  a53 := Tryz.isAgg79
  z53 := Tryz.sizeOf79
  v53 := Tryz.zeroValue79
  t70 := Tryz.underlying156
  a70 := Tryz.isAgg156
  z70 := Tryz.sizeOf156
  v70 := Tryz.zeroValue156
  t72 := Tryz.underlying158
  a72 := Tryz.isAgg158
  z72 := Tryz.sizeOf158
  v72 := Tryz.zeroValue158
  t75 := Tryz.underlying88
  a75 := Tryz.isAgg88
  z75 := Tryz.sizeOf88
  v75 := Tryz.zeroValue88
  t76 := Tryz.underlying160
  a76 := Tryz.isAgg160
  z76 := Tryz.sizeOf160
  v76 := Tryz.zeroValue160
  t109 := Tryz.underlying154
  a109 := Tryz.isAgg154
  z109 := Tryz.sizeOf154
  v109 := Tryz.zeroValue154
  t127 := Tryz.underlying185
  a127 := Tryz.isAgg185
  z127 := Tryz.sizeOf185
  v127 := Tryz.zeroValue185
  t146 := Tryz.underlying181
  a146 := Tryz.isAgg181
  z146 := Tryz.sizeOf181
  v146 := Tryz.zeroValue181
  t148 := Tryz.underlying183
  a148 := Tryz.isAgg183
  z148 := Tryz.sizeOf183
  v148 := Tryz.zeroValue183
  t164 := Tryz.underlying198
  a164 := Tryz.isAgg198
  z164 := Tryz.sizeOf198
  v164 := Tryz.zeroValue198 }
theorem Tryz.Builder_Extra_105 : Builder.Extra Tryz.prog Tryz.lays105_ren := {
  sizeBuilder := by kernel_rfl
  liesBuilder := by kernel_rfl
  t5 := Tryz.underlying5
  a5 := Tryz.isAgg5
  z5 := Tryz.sizeOf5
  v5 := Tryz.zeroValue5
  infoByte := by kernel_rfl
  cellsByte := by kernel_rfl
  sizeByte := by kernel_rfl
  neB5 := by decide }
end Go.Proofs

namespace Go.Ab
open Go Go.Proofs
theorem grow_drewN (w : World) (k : Nat) (os : Array Obj) : Grow w (Go.Sort.grow (w.drewN k) os) := by
  refine ⟨rfl, rfl, rfl, ?_, fun i hi => ?_⟩
  · show w.heap.size ≤ (w.heap ++ os).size
    simp
  · show (w.heap ++ os)[i]? = w.heap[i]?
    rw [Array.getElem?_append_left hi]
open Go.RowKit in
theorem below_grow {w w' : World} (h : Below w.heap.size w w') : Grow w w' := ⟨h.os, h.tape, h.output, h.size, fun k hk => h.block k hk⟩
theorem decDigits_len (u : Nat) : (Go.Lib.decDigits u).length ≤ u / 2 + 1 := by
  induction u using Nat.strongRecOn with
  | ind u ih =>
    rw [Go.Lib.decDigits]
    split
    · simp
    · have := ih (u / 10) (by omega)
      simp only [List.length_append, List.length_cons, List.length_nil]
      omega
theorem itoa_len {n : Int} (h1 : -9223372036854775808 ≤ n) (h2 : n ≤ 9223372036854775807) : (Go.Lib.itoa n).length ≤ maxLen := by
  unfold Go.Lib.itoa maxLen
  split
  · have := decDigits_len n.natAbs
    simp only [List.length_cons]
    omega
  · have := decDigits_len n.toNat
    omega
theorem repeatL_len (l : List UInt8) (c : Nat) : (Go.Lib.repeatL l c).length = l.length * c := by
  rw [Go.Lib.repeatL_length, Nat.mul_comm]
end Go.Ab

namespace Go.Ab
open Go Go.Proofs Go.RowKit
def readDecL (s : List UInt8) : Int × Bool :=
  if 18 < (Go.Lib.trimPrefix s [45]).length then (0, false) else match Go.Lib.parseIntB 64 s with
    | .ok v => if Go.Lib.itoa v = s then (v, true) else (0, false)
    | _ => (0, false)
theorem Grow.trans' {a b c : World} (h1 : Grow a b) (h2 : Grow b c) : Grow a c :=
  ⟨h2.os.trans h1.os, h2.tape.trans h1.tape, h2.output.trans h1.output, Nat.le_trans h1.size h2.size, fun k hk => (h2.block k (Nat.lt_of_lt_of_le hk h1.size)).trans (h1.block k hk)⟩
theorem Grow.refl' (a : World) : Grow a a := ⟨rfl, rfl, rfl, Nat.le_refl _, fun _ _ => rfl⟩
theorem tab_grow {w w' : World} (h : tabOk w) (hg : Grow w w') : tabOk w' :=
  inv0.stable w w' h hg.os fun b hb => hg.block b (inv0.inside w h b hb)
theorem trim_calls (s : ByteArray) (w : World) : Calls Tryz.prog 65 #[.string s, .string ⟨#[45]⟩] w fun e w' => e = .returned (.string ⟨(Go.Lib.trimPrefix s.data.toList [45]).toArray⟩) ∧ w' = w :=
  Any.strings_TrimPrefix Tryz.lays101 s ⟨#[45]⟩ w
theorem bytes_grow (w : World) (e : TypeId) (t : ByteArray) : Grow w (Go.Lib.bytesWorld w e t) := by
  unfold Go.Lib.bytesWorld World.freeze
  rw [if_neg (by decide)]
  have hs : (w.drew.alloc (.cells (Go.Lib.bytesCells w e t) e)).heap.size = w.heap.size + 1 := by
    show (w.heap.push _).size = _
    simp
  refine ⟨rfl, rfl, rfl, ?_, fun k hk => ?_⟩
  · show w.heap.size ≤ (Array.modify _ _ _).size
    rw [Array.size_modify, hs]; omega
  · show (Array.modify _ _ _)[k]? = _
    rw [Array.getElem?_modify, if_neg (by show ¬ w.heap.size = k; omega)]
    show (w.heap.push _)[k]? = _
    rw [Array.getElem?_push, if_neg (by omega)]
theorem parse_calls (s : ByteArray) (w : World) (hs : s.size ≤ 1048576) (hw : tabOk w) : Calls Tryz.prog 66 #[.string s, .int .i64 10, .int .i64 64] w fun e w' =>
    Grow w w' ∧ ((∃ v, Go.Lib.parseIntB 64 s.data.toList = .ok v ∧ e = .returned (.tuple #[.int .i64 v, .nilIface])) ∨ ((∀ v, Go.Lib.parseIntB 64 s.data.toList ≠ .ok v) ∧ ∃ v t p, e = .returned (.tuple #[.int .i64 v, .iface t p]))) := by
  cases h : Go.Lib.parseIntB 64 s.data.toList with
  | ok v =>
    refine (Any.strconv_ParseInt_10_at64_ok Tryz.laysC174 s (by omega) v h w).mono ?_
    rintro e w' ⟨rfl, hw'⟩
    refine ⟨?_, .inl ⟨v, rfl, rfl⟩⟩
    rcases hw' with rfl | ⟨t, rfl⟩
    · exact Grow.refl' _
    · exact bytes_grow _ _ _
  | range=>
    obtain ⟨te, pe, hc⟩ := hw.2.2
    refine (Any.strconv_ParseInt_10_at64_range Tryz.laysC174 s (by omega) h _ w hc (.inr ⟨te, pe, rfl⟩)).mono ?_
    rintro e w' ⟨N, rfl, _, _, hB⟩
    exact ⟨below_grow hB, .inr ⟨by simp, _, _, _, rfl⟩⟩
  | _ =>
    obtain ⟨te, pe, hc⟩ := hw.2.1
    refine (Any.strconv_ParseInt_10_at64_syntax Tryz.laysC174 s (by omega) h _ w hc (.inr ⟨te, pe, rfl⟩)).mono ?_
    rintro e w' ⟨N, rfl, _, _, hB⟩
    exact ⟨below_grow hB, .inr ⟨by simp, _, _, _, rfl⟩⟩
theorem format_calls (n : Int) (w : World) (h0 : -9223372036854775808 ≤ n) (h1 : n ≤ 9223372036854775807) (hw : tabOk w) : Calls Tryz.prog 71 #[.int .i64 n, .int .i64 10] w fun e w' =>
    e = .returned (.string ⟨(Go.Lib.itoa n).toArray⟩) ∧ Grow w w' := by
  refine (Any.strconv_FormatInt_10 Tryz.laysM173 n h0 h1 w hw.1.1).mono ?_
  rintro e w' ⟨rfl, k, os, rfl⟩
  exact ⟨rfl, grow_drewN w k os⟩
theorem decimal_calls (n : Int) (w : World) (h0 : -9223372036854775808 ≤ n) (h1 : n ≤ 9223372036854775807) (hw : tabOk w) : Calls Tryz.prog 33 #[.int .i64 n] w fun e w' =>
    e = .returned (.string ⟨(Go.Lib.itoa n).toArray⟩) ∧ Grow w w' := by
  go_enter Tryz.func33, Tryz.ntmps33
  go_wp2_with (go_at_call 71; refine (format_calls _ _ h0 h1 hw).mono ?_; rintro e w' ⟨rfl, hg⟩)
  go_ret
  exact ⟨rfl, hg⟩
set_option maxHeartbeats 1000000 in
theorem readDec_walk (s : ByteArray) (w : World) (hs : s.size ≤ 1048576) (hw : tabOk w) : Calls Tryz.prog 30 #[.string s] w fun e w' =>
    Grow w w' ∧ e = .returned (.tuple #[.int .i64 (readDecL s.data.toList).1, .bool (readDecL s.data.toList).2]) := by
  go_enter Tryz.func30, Tryz.ntmps30
  go_wp2_with (first
    | (go_at_call 65; refine (trim_calls _ _).mono ?_; rintro e w' ⟨rfl, rfl⟩)
    | (go_at_call 66; refine (parse_calls _ _ hs hw).mono ?_; rintro e w' ⟨hg, ⟨v, hv, rfl⟩ | ⟨hv, v, t, p, rfl⟩⟩)
    | (go_at_call 33; have hb := Go.Lib.parseIntB_bounds hv; refine (decimal_calls _ _ (by omega) (by omega) (tab_grow hw hg)).mono ?_; rintro e w'' ⟨rfl, hg2⟩))
  · go_ret2
    rename_i h
    have h : 18 < (Go.Lib.trimPrefix s.data.toList [45]).length := by omega
    refine ⟨Grow.refl' _, ?_⟩
    unfold readDecL
    rw [if_pos h]
    rfl
  · go_ret2
    rename_i hne
    rw [ByteArray.toList_eq] at hne
    have hne : Go.Lib.itoa v ≠ s.data.toList := by simpa using hne
    refine ⟨Grow.trans' hg hg2, ?_⟩
    unfold readDecL
    rw [if_neg (by omega), hv]
    simp only
    rw [if_neg hne]
    rfl
  · go_ret2
    rename_i hne
    rw [ByteArray.toList_eq] at hne
    have hne : Go.Lib.itoa v = s.data.toList := by simpa using hne
    refine ⟨Grow.trans' hg hg2, ?_⟩
    unfold readDecL
    rw [if_neg (by omega), hv]
    simp only
    rw [if_pos hne]
    rfl
  · go_ret2
    refine ⟨hg, ?_⟩
    unfold readDecL
    rw [if_neg (by omega)]
    cases hp : Go.Lib.parseIntB 64 s.data.toList with
    | ok v => exact absurd hp (hv v)
    | _ => rfl
theorem readDec_den (a0 : List UInt8) (hp0 : a0.length ≤ 1048576) : Den Tryz.prog 30 [.str a0] (.tup [.int .i64 (readDecL a0).1, .bool (readDecL a0).2]) := by
  refine Den.plain ⟨_, Tryz.func30, rfl, rfl⟩ (by simp [NoOwnL, NoOwn]) ?_
  intro w M vs hI hr
  simp only [RepL] at hr
  obtain ⟨u0, us0, f0, g0, rfl, h0e, h0, rfl, _⟩ := hr
  have e0 := h0.val_str
  subst e0
  refine (readDec_walk ⟨a0.toArray⟩ w (by show a0.length ≤ _; omega) hI).mono ?_
  rintro e w' ⟨hg, rfl⟩
  refine ⟨_, rfl, hg, fun M' => ?_⟩
  simp only [Rep]
  exact ⟨_, rfl, by simp only [RepL]; exact ⟨_, [_], [], [], rfl, rfl, rep_int _ _, _, [], [], [], rfl, rfl, rep_bool _, rfl, rfl⟩⟩
end Go.Ab

namespace Go.Ab
open Go Go.Proofs
def spec_l01Number_b1 (a0 : (List UInt8)) (i1 : Nat) (s1 : Int) : Except ((Int × Bool)) (Int) :=
  (bif (!(spec_l01Digit ((a0.getD i1 0).toNat : Int))) then .error (0, false) else .ok (IntKind.wrap .i64 ((IntKind.wrap .i64 (10 * s1)) + (IntKind.wrap .i64 (IntKind.wrap .u8 (((a0.getD i1 0).toNat : Int) - 48))))))
def spec_l01Number_b2 (a0 : (List UInt8)) (i2 : Nat) (s2 : Int) : Except ((Int × Bool)) (Int) :=
  (bif (!(spec_l01Digit ((a0.getD i2 0).toNat : Int))) then .error (0, false) else .ok (IntKind.wrap .i64 ((IntKind.wrap .i64 (10 * s2)) + (IntKind.wrap .i64 (IntKind.wrap .u8 (((a0.getD i2 0).toNat : Int) - 48))))))
def spec_l01Number (a0 : (List UInt8)) : (Int × Bool) :=
  (bif (decide (0 < (a0.length : Int)) && (((a0.getD 0 0).toNat : Int) == 45)) then (bif ((((a0.length : Int) == 1) || decide (18 < (IntKind.wrap .i64 ((a0.length : Int) - 1)))) || ((((a0.getD 1 0).toNat : Int) == 48) && decide (1 < (a0.length : Int)))) then (0, false) else (match loopR (spec_l01Number_b1 a0) (a0.length - 1) 1 0 with | .error e => e | .ok s1 => (IntKind.wrap .i64 (0 - s1), true))) else (bif ((((a0.length : Int) == 0) || decide (18 < (IntKind.wrap .i64 ((a0.length : Int) - 0)))) || ((((a0.getD 0 0).toNat : Int) == 48) && decide (1 < (a0.length : Int)))) then (0, false) else (match loopR (spec_l01Number_b2 a0) (a0.length - 0) 0 0 with | .error e => e | .ok s2 => (s2, true))))
end Go.Ab

namespace Go.Ab
open Go Go.Proofs
def E18 : Nat := 1000000000000000000
theorem itoa_pos (m : Nat) : Lib.itoa (m : Int) = Lib.decDigits m := by
  unfold Lib.itoa; rw [if_neg (by omega)]; simp
theorem itoa_nn {n : Int} (h : ¬ n < 0) : Lib.itoa n = Lib.decDigits n.natAbs := by
  unfold Lib.itoa; rw [if_neg h]; congr 1; omega
theorem itoa_neg' {n : Int} (h : n < 0) : Lib.itoa n = 45 :: Lib.decDigits n.natAbs := by
  unfold Lib.itoa; rw [if_pos h]
theorem not45 (m : Nat) : ∃ c t, Lib.decDigits m = c :: t ∧ c ≠ 45 := by
  obtain ⟨h1, h2, h3, h4⟩ := decDigits_all m
  obtain ⟨c, t, e⟩ := List.exists_cons_of_ne_nil h3
  refine ⟨c, t, e, fun h => ?_⟩
  have := h1 c (by rw [e]; simp)
  subst h
  simp at this
theorem itoa_inj {n n' : Int} (h : Lib.itoa n = Lib.itoa n') : n = n' := by
  have hd : ∀ m : Nat, digV 0 (Lib.decDigits m) = m := fun m => (decDigits_all m).2.1
  by_cases h1 : n < 0 <;> by_cases h2 : n' < 0
  · rw [itoa_neg' h1, itoa_neg' h2] at h
    have := congrArg (digV 0) (List.cons.inj h).2
    rw [hd, hd] at this
    omega
  · obtain ⟨c, t, e, hc⟩ := not45 n'.toNat
    rw [itoa_neg' h1, show n' = (n'.toNat : Int) by omega, itoa_pos, e] at h
    exact absurd (List.cons.inj h).1.symm hc
  · obtain ⟨c, t, e, hc⟩ := not45 n.toNat
    rw [itoa_neg' h2, show n = (n.toNat : Int) by omega, itoa_pos, e] at h
    exact absurd (List.cons.inj h).1 hc
  · rw [show n = (n.toNat : Int) by omega, show n' = (n'.toNat : Int) by omega, itoa_pos, itoa_pos] at h
    have := congrArg (digV 0) h
    rw [hd, hd] at this
    omega
theorem trim_itoa (n : Int) : (Lib.trimPrefix (Lib.itoa n) [45]).length = (Lib.decDigits n.natAbs).length := by
  by_cases h : n < 0
  · rw [itoa_neg' h]; simp [Lib.trimPrefix, Lib.hasPrefix]
  · obtain ⟨c, t, e, hc⟩ := not45 n.toNat
    rw [itoa_nn h]
    rw [show n.toNat = n.natAbs by omega] at e
    unfold Lib.trimPrefix Lib.hasPrefix
    rw [if_neg (by rw [e]; simp; exact fun h => hc h.symm)]
theorem parse_itoa (n : Int) (h1 : n.natAbs < E18) : Lib.parseIntB 64 (Lib.itoa n) = .ok n := by
  unfold E18 at h1
  obtain ⟨d1, d2, d3, d4⟩ := decDigits_all n.natAbs
  have hp : Lib.parseUintB 64 (Lib.decDigits n.natAbs) = .ok n.natAbs := by
    unfold Lib.parseUintB
    rw [if_neg d3, parseUintM_dig _ _ 0 d1 (by rw [d2]; omega) (by decide), d2]
  by_cases h : n < 0
  · rw [itoa_neg' h, Lib.parseIntB_minus, hp]
    show (if 2 ^ (64 - 1) < n.natAbs then _ else _) = _
    rw [if_neg (by omega)]
    congr 1; omega
  · obtain ⟨c, t, e, hc⟩ := not45 n.natAbs
    have e2 := itoa_nn h
    have hc1 := d1 c (by rw [e]; simp)
    rw [e2]
    rw [e] at hp ⊢
    rw [Lib.parseIntB_plain 64 c t (by omega) (by omega), hp]
    show (if 2 ^ (64 - 1) ≤ n.natAbs then _ else _) = _
    rw [if_neg (by omega)]
    congr 1; omega
def NumSpec (w : List UInt8) (r : Int × Bool) : Prop :=
  (∃ n : Int, n.natAbs < E18 ∧ w = Lib.itoa n ∧ r = (n, true)) ∨ ((∀ n : Int, n.natAbs < E18 → w ≠ Lib.itoa n) ∧ r = (0, false))
theorem NumSpec.unique {w : List UInt8} {r r' : Int × Bool} (h : NumSpec w r) (h' : NumSpec w r') : r = r' := by
  rcases h with ⟨n, h1, h2, rfl⟩ | ⟨h1, rfl⟩ <;> rcases h' with ⟨n', h1', h2', rfl⟩ | ⟨h1', rfl⟩
  · rw [itoa_inj (h2.symm.trans h2')]
  · exact absurd h2 (h1' n h1)
  · exact absurd h2' (h1 n' h1')
  · rfl
theorem readDec_spec (w : List UInt8) : NumSpec w (readDecL w) := by
  unfold readDecL
  by_cases h18 : 18 < (Lib.trimPrefix w [45]).length
  · rw [if_pos h18]
    refine .inr ⟨fun n hn e => ?_, rfl⟩
    subst e
    rw [trim_itoa] at h18
    have := (decDigits_len18 n.natAbs).2 hn
    omega
  · rw [if_neg h18]
    cases hp : Lib.parseIntB 64 w with
    | ok v =>
      simp only
      by_cases hv : Lib.itoa v = w
      · rw [if_pos hv]
        refine .inl ⟨v, ?_, hv.symm, rfl⟩
        subst hv
        rw [trim_itoa] at h18
        exact (decDigits_len18 v.natAbs).1 (by omega)
      · rw [if_neg hv]
        refine .inr ⟨fun n hn e => ?_, rfl⟩
        subst e
        rw [parse_itoa n hn] at hp
        cases hp
        exact hv rfl
    | _ => exact .inr ⟨fun n hn e => (by subst e; rw [parse_itoa n hn] at hp; cases hp), rfl⟩
theorem wid {n : Int} (h1 : -9223372036854775808 ≤ n) (h2 : n ≤ 9223372036854775807) : IntKind.wrap .i64 n = n := by
  rw [IntKind.wrap_i64]; omega
theorem digit_loop (a : List UInt8) (b : Nat → Int → Except (Int × Bool) Int) (hb : ∀ i s, b i s = (bif (!(decide (48 ≤ ((a.getD i 0).toNat : Int)) && decide (((a.getD i 0).toNat : Int) ≤ 57))) then .error (0, false) else .ok (IntKind.wrap .i64 ((IntKind.wrap .i64 (10 * s)) + (IntKind.wrap .i64 (IntKind.wrap .u8 (((a.getD i 0).toNat : Int) - 48))))))) :
    ∀ (k i n : Nat), i + k = a.length → (n + 1) * 10 ^ k ≤ E18 → loopR b k i (n : Int) = if allDig (a.drop i) then .ok ((digV n (a.drop i) : Nat) : Int) else .error (0, false)
  | 0, i, n, h, hn => by
    rw [List.drop_eq_nil_of_le (by omega), digV_nil, if_pos (by intro b hb; simp at hb)]
    rfl
  | k + 1, i, n, h, hn => by
    have hlt : i < a.length := by omega
    have hg : a.getD i 0 = a[i] := by simp [List.getD, List.getElem?_eq_getElem hlt]
    rw [List.drop_eq_getElem_cons hlt, digV_cons]
    simp only [loopR, hb, hg]
    have h10 : (n + 1) * 10 ^ (k + 1) = ((n + 1) * 10) * 10 ^ k := by rw [Nat.pow_succ, Nat.mul_assoc, Nat.mul_comm 10]
    have hone : 1 ≤ 10 ^ k := Nat.one_le_pow _ _ (by decide)
    have hbig : (n + 1) * 10 * 1 ≤ (n + 1) * 10 * 10 ^ k := Nat.mul_le_mul_left _ hone
    unfold E18 at hn
    by_cases hd : 48 ≤ a[i].toNat ∧ a[i].toNat ≤ 57
    · have e : (!(decide (48 ≤ ((a[i]).toNat : Int)) && decide (((a[i]).toNat : Int) ≤ 57))) = false := by simp; omega
      rw [e, cond_false]
      have hw : IntKind.wrap .i64 ((IntKind.wrap .i64 (10 * (n : Int))) + (IntKind.wrap .i64 (IntKind.wrap .u8 (((a[i]).toNat : Int) - 48)))) = ((10 * n + (a[i].toNat - 48) : Nat) : Int) := by
        rw [wid (n := 10 * (n : Int)) (by omega) (by omega), IntKind.wrap_u8, Int.emod_eq_of_lt (by omega) (by omega), wid (n := ((a[i]).toNat : Int) - 48) (by omega) (by omega), wid (by omega) (by omega)]
        omega
      rw [hw]
      simp only
      have hm : (10 * n + (a[i].toNat - 48) + 1) * 10 ^ k ≤ (n + 1) * 10 * 10 ^ k := Nat.mul_le_mul_right _ (by omega)
      rw [digit_loop a b hb k (i + 1) _ (by omega) (by unfold E18; omega)]
      have hiff : allDig (a[i] :: a.drop (i + 1)) ↔ allDig (a.drop (i + 1)) := ⟨fun h b hb => h b (List.mem_cons_of_mem _ hb), fun h b hb => by
        rcases List.mem_cons.1 hb with rfl | hb
        · exact hd
        · exact h b hb⟩
      by_cases hA : allDig (a.drop (i + 1))
      · rw [if_pos hA, if_pos (hiff.2 hA)]
      · rw [if_neg hA, if_neg (fun h => hA (hiff.1 h))]
    · have e : (!(decide (48 ≤ ((a[i]).toNat : Int)) && decide (((a[i]).toNat : Int) ≤ 57))) = true := by
        simp; omega
      rw [e, cond_true]
      simp only
      rw [if_neg (fun h => hd (h a[i] List.mem_cons_self))]
theorem drop_one {a : List UInt8} (h : 0 < a.length) : a = a.getD 0 0 :: a.drop 1 := by
  obtain ⟨c, t, rfl⟩ := List.exists_cons_of_length_pos h
  simp
theorem l01Number_spec (w : List UInt8) (hw : w.length ≤ 1048576) : NumSpec w (spec_l01Number w) := by
  unfold spec_l01Number
  by_cases hneg : 0 < w.length ∧ w.getD 0 0 = 45
  · have e0 : (decide (0 < (w.length : Int)) && (((w.getD 0 0).toNat : Int) == 45)) = true := by rw [hneg.2]; simp; omega
    rw [e0, cond_true]
    have hd1 := drop_one hneg.1
    rw [hneg.2] at hd1
    generalize hr : w.drop 1 = r at hd1
    have hlen : w.length = r.length + 1 := by rw [hd1]; simp
    have hg1 : w.getD 1 0 = r.getD 0 0 := by rw [hd1]; simp
    have hno : (∀ m : Nat, m < E18 → 1 ≤ m → r ≠ Lib.decDigits m) → ∀ n : Int, n.natAbs < E18 → w ≠ Lib.itoa n := by
      intro h n hn e
      by_cases hn0 : n < 0
      · rw [itoa_neg' hn0, hd1] at e
        exact h n.natAbs hn (by omega) (List.cons.inj e).2
      · obtain ⟨c, t, e3, hc⟩ := not45 n.natAbs
        rw [itoa_nn hn0, e3, hd1] at e
        exact hc (List.cons.inj e).1.symm
    by_cases hbad : r = [] ∨ 18 < r.length ∨ r.getD 0 0 = 48
    · have e1 : ((((w.length : Int) == 1) || decide (18 < (IntKind.wrap .i64 ((w.length : Int) - 1)))) || ((((w.getD 1 0).toNat : Int) == 48) && decide (1 < (w.length : Int)))) = true := by
        rw [IntKind.wrap_i64, hg1, hlen]
        rcases hbad with h | h | h
        · subst h; simp
        · simp; left; right; omega
        · by_cases hr0 : r = []
          · subst hr0; simp
          · have : 0 < r.length := List.length_pos_iff.2 hr0
            rw [h]; simp; right; omega
      rw [e1, cond_true]
      refine .inr ⟨hno fun m hm h1 e => ?_, rfl⟩
      obtain ⟨d1, d2, d3, d4⟩ := decDigits_all m
      rcases hbad with h | h | h
      · rw [h] at e; exact d3 e.symm
      · rw [e] at h; have := (decDigits_len18 m).2 hm; omega
      · rw [e] at h; exact d4 h1 h
    · have hb1 : r ≠ [] := fun h => hbad (.inl h)
      have hb2 : r.length ≤ 18 := by
        by_cases h : r.length ≤ 18
        · exact h
        · exact absurd (.inr (.inl (by omega))) hbad
      have hb3 : r.getD 0 0 ≠ 48 := fun h => hbad (.inr (.inr h))
      have hrp : 0 < r.length := List.length_pos_iff.2 hb1
      have hn48 : ¬ (r.getD 0 0).toNat = 48 := fun h => hb3 (UInt8.toNat_inj.1 (by rw [h]; rfl))
      have e1 : ((((w.length : Int) == 1) || decide (18 < (IntKind.wrap .i64 ((w.length : Int) - 1)))) || ((((w.getD 1 0).toNat : Int) == 48) && decide (1 < (w.length : Int)))) = false := by
        rw [IntKind.wrap_i64, hg1, hlen]
        simp only [Bool.or_eq_false_iff, Bool.and_eq_false_iff, beq_eq_false_iff_ne, decide_eq_false_iff_not]
        refine ⟨⟨by omega, by omega⟩, .inl (by omega)⟩
      rw [e1, cond_false]
      have hpow : (0 + 1) * 10 ^ (w.length - 1) ≤ E18 := by
        have : 10 ^ (w.length - 1) ≤ 10 ^ 18 := Nat.pow_le_pow_right (by decide) (by omega)
        have h6 : (10 : Nat) ^ 18 = 1000000000000000000 := by decide
        unfold E18; omega
      have hL := digit_loop w (spec_l01Number_b1 w) (fun i s => rfl) (w.length - 1) 1 0 (by omega) hpow
      rw [hr] at hL
      rw [show (0 : Int) = ((0 : Nat) : Int) from rfl, hL]
      by_cases hA : allDig r
      · rw [if_pos hA]
        have hlt := digV_lt r 0 hA
        have hp2 : 10 ^ r.length ≤ 10 ^ 18 := Nat.pow_le_pow_right (by decide) hb2
        have h6 : (10 : Nat) ^ 18 = 1000000000000000000 := by decide
        have hdv := dec_of_digV r.length r rfl hA hb1 (.inl hb3)
        have hv1 : 1 ≤ digV 0 r := by
          obtain ⟨c, t, e⟩ := List.exists_cons_of_ne_nil hb1
          have h5 := digV_ge t (10 * 0 + (c.toNat - 48))
          have hc := hA c (by rw [e]; simp)
          have hcn : c.toNat ≠ 48 := by rw [e] at hn48; simpa using hn48
          have h7 : 1 ≤ 10 ^ t.length := Nat.one_le_pow _ _ (by decide)
          have h8 : 1 * 1 ≤ (10 * 0 + (c.toNat - 48)) * 10 ^ t.length := Nat.mul_le_mul (by omega) h7
          rw [e, digV_cons]; omega
        simp only
        have hwr : IntKind.wrap .i64 (((0 : Nat) : Int) - ((digV 0 r : Nat) : Int)) = -((digV 0 r : Nat) : Int) := by rw [IntKind.wrap_i64]; omega
        rw [hwr]
        refine .inl ⟨-((digV 0 r : Nat) : Int), by unfold E18; omega, ?_, rfl⟩
        rw [itoa_neg' (by omega), show (-((digV 0 r : Nat) : Int)).natAbs = digV 0 r by omega, hdv]
        exact hd1
      · rw [if_neg hA]
        refine .inr ⟨hno fun m hm h1 e => hA (by rw [e]; exact (decDigits_all m).1), rfl⟩
  · have e0 : (decide (0 < (w.length : Int)) && (((w.getD 0 0).toNat : Int) == 45)) = false := by
      simp only [Bool.and_eq_false_iff, beq_eq_false_iff_ne, decide_eq_false_iff_not]
      by_cases h : 0 < w.length
      · right
        intro h2
        exact hneg ⟨h, UInt8.toNat_inj.1 (by show _ = 45; omega)⟩
      · left; omega
    rw [e0, cond_false]
    have hno : (∀ m : Nat, m < E18 → w ≠ Lib.decDigits m) → ∀ n : Int, n.natAbs < E18 → w ≠ Lib.itoa n := by
      intro h n hn e
      by_cases hn0 : n < 0
      · rw [itoa_neg' hn0] at e
        exact hneg ⟨by rw [e]; simp, by rw [e]; simp⟩
      · rw [itoa_nn hn0] at e
        exact h n.natAbs hn e
    by_cases hbad : w = [] ∨ 18 < w.length ∨ (w.getD 0 0 = 48 ∧ 1 < w.length)
    · have e1 : ((((w.length : Int) == 0) || decide (18 < (IntKind.wrap .i64 ((w.length : Int) - 0)))) || ((((w.getD 0 0).toNat : Int) == 48) && decide (1 < (w.length : Int)))) = true := by
        rw [IntKind.wrap_i64]
        rcases hbad with h | h | h
        · subst h; simp
        · simp; left; right; omega
        · rw [h.1]; simp; right; omega
      rw [e1, cond_true]
      refine .inr ⟨hno fun m hm e => ?_, rfl⟩
      obtain ⟨d1, d2, d3, d4⟩ := decDigits_all m
      rcases hbad with h | h | h
      · rw [h] at e; exact d3 e.symm
      · rw [e] at h; have := (decDigits_len18 m).2 hm; omega
      · rw [e] at h
        by_cases hm0 : 1 ≤ m
        · exact d4 hm0 h.1
        · obtain rfl : m = 0 := by omega
          rw [Lib.decDigits_one (by decide)] at h
          simp at h
    · have hb1 : w ≠ [] := fun h => hbad (.inl h)
      have hb2 : w.length ≤ 18 := by
        by_cases h : w.length ≤ 18
        · exact h
        · exact absurd (.inr (.inl (by omega))) hbad
      have hrp : 0 < w.length := List.length_pos_iff.2 hb1
      have hb3 : w.getD 0 0 ≠ 48 ∨ w.length = 1 := by
        by_cases h : w.getD 0 0 = 48
        · right
          by_cases h1 : 1 < w.length
          · exact absurd (.inr (.inr ⟨h, h1⟩)) hbad
          · omega
        · exact .inl h
      have e1 : ((((w.length : Int) == 0) || decide (18 < (IntKind.wrap .i64 ((w.length : Int) - 0)))) || ((((w.getD 0 0).toNat : Int) == 48) && decide (1 < (w.length : Int)))) = false := by
        rw [IntKind.wrap_i64]
        simp only [Bool.or_eq_false_iff, Bool.and_eq_false_iff, beq_eq_false_iff_ne, decide_eq_false_iff_not]
        refine ⟨⟨by omega, by omega⟩, ?_⟩
        rcases hb3 with h | h
        · left
          intro h2
          exact h (UInt8.toNat_inj.1 (by show _ = 48; omega))
        · right; omega
      rw [e1, cond_false]
      have hpow : (0 + 1) * 10 ^ (w.length - 0) ≤ E18 := by
        have : 10 ^ (w.length - 0) ≤ 10 ^ 18 := Nat.pow_le_pow_right (by decide) (by omega)
        have h6 : (10 : Nat) ^ 18 = 1000000000000000000 := by decide
        unfold E18; omega
      have hL := digit_loop w (spec_l01Number_b2 w) (fun i s => rfl) (w.length - 0) 0 0 (by omega) hpow
      rw [List.drop_zero] at hL
      rw [show (0 : Int) = ((0 : Nat) : Int) from rfl, hL]
      by_cases hA : allDig w
      · rw [if_pos hA]
        have hlt := digV_lt w 0 hA
        have hp2 : 10 ^ w.length ≤ 10 ^ 18 := Nat.pow_le_pow_right (by decide) hb2
        have h6 : (10 : Nat) ^ 18 = 1000000000000000000 := by decide
        have hdv := dec_of_digV w.length w rfl hA hb1 hb3
        refine .inl ⟨((digV 0 w : Nat) : Int), by unfold E18; omega, ?_, rfl⟩
        rw [itoa_pos, hdv]
      · rw [if_neg hA]
        refine .inr ⟨hno fun m hm e => hA (by rw [e]; exact (decDigits_all m).1), rfl⟩
theorem number_eq (w : List UInt8) (hw : w.length ≤ 1048576) : readDecL w = spec_l01Number w := (readDec_spec w).unique (l01Number_spec w hw)
end Go.Ab

namespace Go.Ab
open Go Go.Proofs
theorem impl_isYear_DD : DOk Tryz.prog (DD [(68, dP D_impl_within)]) := DD_cons D_impl_within_ok.e <| DD_nil _
def impl_isYear (a0 : Int) : Bool :=
  (impl_within a0 2000 2273)
theorem impl_isYear_den (a0 : Int)  : Den Tryz.prog 106 [.int .i64 a0] (.bool (impl_isYear a0)) := by
  generalize hR : impl_isYear a0 = r
  unfold impl_isYear at hR
  refine den_intro G_ok Tryz.func106 (by kernel_rfl) rfl Tryz.ntmps106 (by rw [Tryz.results106]) (by simp) rfl ?_
  intro c hL hc hk
  clear hL
  simp only [pars, Nat.zero_add]
  refine AWP.seq ?_
  refine AWP.regS G_ok impl_isYear_DD hc (by kernel_rfl) (fun K hK => ?_); simp only [ea, gv, sv, D_impl_within, reduceCtorEq, reduceIte, Nat.reduceBEq, Nat.reduceAdd, Nat.reduceEqDiff, Nat.reduceLT, Nat.reduceLeDiff, Nat.reduceMul, Nat.reduceSub, BEq.rfl, beq_self_eq_true, Int.reduceToNat]
  (refine hK _ ?_)
  clear hK K
  refine AWP.seq ?_
  refine AWP.regS G_ok impl_isYear_DD hc (by kernel_rfl) (fun K hK => ?_); simp only [ea, gv, sv, D_impl_within, reduceCtorEq, reduceIte, Nat.reduceBEq, Nat.reduceAdd, Nat.reduceEqDiff, Nat.reduceLT, Nat.reduceLeDiff, Nat.reduceMul, Nat.reduceSub, BEq.rfl, beq_self_eq_true, Int.reduceToNat]
  (refine hK _ ?_)
  clear hK K
  refine AWP.ret ?_
  subst hR
  (simp only [en, si, ea, gv, sv, hk, reduceCtorEq, reduceIte, Nat.reduceBEq, Nat.reduceAdd, Nat.reduceEqDiff, Nat.reduceLT, Nat.reduceLeDiff, Nat.reduceMul, Nat.reduceSub, BEq.rfl, beq_self_eq_true, Int.reduceToNat]; done)
def D_impl_isYear : DF
  | [x0] => some (.bool (impl_isYear (rdI x0)), false, [wI .i64 x0])
  | _ => none
theorem D_impl_isYear_ok : OkD Tryz.prog 106 D_impl_isYear := by
  intro xs r z ob h ho
  unfold D_impl_isYear at h
  split at h
  · simp only [Option.some.injEq, Prod.mk.injEq] at h
    obtain ⟨rfl, rfl, rfl⟩ := h
    obtain ⟨h0, _⟩ := ho
    exact Den.sim (impl_isYear_den _ ) (simOL_cons (wI_sim h0).1 <| trivial) (noIdL_cons (wI_sim h0).2 <| rfl) rfl
  · cases h
end Go.Ab

namespace Go.Ab
open Go Go.Proofs
theorem impl_IsLeap_DD : DOk Tryz.prog (DD [(106, dP D_impl_isYear)]) := DD_cons D_impl_isYear_ok.e <| DD_nil _
def impl_IsLeap (a0 : Int) : Bool :=
  ((impl_isYear a0) && ((((a0.tmod 4) == 0) && ((a0.tmod 100) != 0)) || ((a0.tmod 400) == 0)))
theorem impl_IsLeap_den (a0 : Int)  : Den Tryz.prog 151 [.int .i64 a0] (.bool (impl_IsLeap a0)) := by
  generalize hR : impl_IsLeap a0 = r
  unfold impl_IsLeap at hR
  refine den_intro G_ok Tryz.func151 (by kernel_rfl) rfl Tryz.ntmps151 (by rw [Tryz.results151]) (by simp) rfl ?_
  intro c hL hc hk
  clear hL
  simp only [pars, Nat.zero_add]
  refine AWP.seq ?_
  refine AWP.regS G_ok impl_IsLeap_DD hc (by kernel_rfl) (fun K hK => ?_); simp only [ea, gv, sv, D_impl_isYear, reduceCtorEq, reduceIte, Nat.reduceBEq, Nat.reduceAdd, Nat.reduceEqDiff, Nat.reduceLT, Nat.reduceLeDiff, Nat.reduceMul, Nat.reduceSub, BEq.rfl, beq_self_eq_true, Int.reduceToNat]
  (refine hK _ ?_)
  clear hK K
  refine AWP.seq ?_
  refine AWP.regS G_ok impl_IsLeap_DD hc (by kernel_rfl) (fun K hK => ?_); simp only [ea, gv, sv, D_impl_isYear, reduceCtorEq, reduceIte, Nat.reduceBEq, Nat.reduceAdd, Nat.reduceEqDiff, Nat.reduceLT, Nat.reduceLeDiff, Nat.reduceMul, Nat.reduceSub, BEq.rfl, beq_self_eq_true, Int.reduceToNat]
  (refine ⟨by (omega), hK _ ?_⟩)
  clear hK K
  refine AWP.ret ?_
  subst hR
  (simp only [en, si, ea, gv, sv, hk, reduceCtorEq, reduceIte, Nat.reduceBEq, Nat.reduceAdd, Nat.reduceEqDiff, Nat.reduceLT, Nat.reduceLeDiff, Nat.reduceMul, Nat.reduceSub, BEq.rfl, beq_self_eq_true, Int.reduceToNat]; done)
def D_impl_IsLeap : DF
  | [x0] => some (.bool (impl_IsLeap (rdI x0)), false, [wI .i64 x0])
  | _ => none
theorem D_impl_IsLeap_ok : OkD Tryz.prog 151 D_impl_IsLeap := by
  intro xs r z ob h ho
  unfold D_impl_IsLeap at h
  split at h
  · simp only [Option.some.injEq, Prod.mk.injEq] at h
    obtain ⟨rfl, rfl, rfl⟩ := h
    obtain ⟨h0, _⟩ := ho
    exact Den.sim (impl_IsLeap_den _ ) (simOL_cons (wI_sim h0).1 <| trivial) (noIdL_cons (wI_sim h0).2 <| rfl) rfl
  · cases h
end Go.Ab

namespace Go.Ab
open Go Go.Proofs
theorem impl_monthDays_DD : DOk Tryz.prog (DD [(151, dP D_impl_IsLeap)]) := DD_cons D_impl_IsLeap_ok.e <| DD_nil _
def impl_monthDays (a0 : Int) (a1 : Int) : Int :=
  (bif ((a1 == 2) && (impl_IsLeap a0)) then 29 else ([31, 28, 31, 30, 31, 30, 31, 31, 30, 31, 30, 31] : List Int).getD ((IntKind.wrap .i64 (a1 - 1)).toNat) 0)
theorem impl_monthDays_den (a0 : Int) (a1 : Int) (hp0 : 1 ≤ a1) (hp1 : a1 ≤ 12) : Den Tryz.prog 108 [.int .i64 a0, .int .i64 a1] (.int .i64 (impl_monthDays a0 a1)) := by
  generalize hR : impl_monthDays a0 a1 = r
  unfold impl_monthDays at hR
  refine den_intro G_ok Tryz.func108 (by kernel_rfl) rfl Tryz.ntmps108 (by rw [Tryz.results108]) (by simp) rfl ?_
  intro c hL hc hk
  clear hL
  simp only [pars, Nat.zero_add]
  refine AWP.seq ?_
  refine AWP.regS G_ok impl_monthDays_DD hc (by kernel_rfl) (fun K hK => ?_); simp only [ea, gv, sv, D_impl_IsLeap, reduceCtorEq, reduceIte, Nat.reduceBEq, Nat.reduceAdd, Nat.reduceEqDiff, Nat.reduceLT, Nat.reduceLeDiff, Nat.reduceMul, Nat.reduceSub, BEq.rfl, beq_self_eq_true, Int.reduceToNat]
  (refine hK _ ?_)
  clear hK K
  refine AWP.seq ?_
  refine AWP.seq ?_
  refine AWP.regS G_ok impl_monthDays_DD hc (by kernel_rfl) (fun K hK => ?_); simp only [ea, gv, sv, D_impl_IsLeap, reduceCtorEq, reduceIte, Nat.reduceBEq, Nat.reduceAdd, Nat.reduceEqDiff, Nat.reduceLT, Nat.reduceLeDiff, Nat.reduceMul, Nat.reduceSub, BEq.rfl, beq_self_eq_true, Int.reduceToNat]
  (refine hK _ ?_)
  clear hK K
  refine AWP.cond rfl (fun hb => ?_) (fun hb => ?_)
  · (simp only [hb, cond_true] at hR)
    refine AWP.seq ?_
    refine AWP.regS G_ok impl_monthDays_DD hc (by kernel_rfl) (fun K hK => ?_); simp only [ea, gv, sv, D_impl_IsLeap, reduceCtorEq, reduceIte, Nat.reduceBEq, Nat.reduceAdd, Nat.reduceEqDiff, Nat.reduceLT, Nat.reduceLeDiff, Nat.reduceMul, Nat.reduceSub, BEq.rfl, beq_self_eq_true, Int.reduceToNat]
    (refine hK _ ?_)
    clear hK K
    refine AWP.ret ?_
    subst hR
    (simp only [en, si, ea, gv, sv, hk, reduceCtorEq, reduceIte, Nat.reduceBEq, Nat.reduceAdd, Nat.reduceEqDiff, Nat.reduceLT, Nat.reduceLeDiff, Nat.reduceMul, Nat.reduceSub, BEq.rfl, beq_self_eq_true, Int.reduceToNat]; done)
  · (simp only [hb, cond_false] at hR)
    refine AWP.skip ?_
    refine AWP.seq ?_
    refine AWP.regS G_ok impl_monthDays_DD hc (by kernel_rfl) (fun K hK => ?_); simp only [ea, gv, sv, D_impl_IsLeap, reduceCtorEq, reduceIte, Nat.reduceBEq, Nat.reduceAdd, Nat.reduceEqDiff, Nat.reduceLT, Nat.reduceLeDiff, Nat.reduceMul, Nat.reduceSub, BEq.rfl, beq_self_eq_true, Int.reduceToNat]
    (refine ⟨by ((simp only [ob, ln, bdv, sv] at *; omega)), hK _ ?_⟩)
    clear hK K
    refine AWP.ret ?_
    subst hR
    (simp only [en, si, ea, gv, sv, hk, reduceCtorEq, reduceIte, Nat.reduceBEq, Nat.reduceAdd, Nat.reduceEqDiff, Nat.reduceLT, Nat.reduceLeDiff, Nat.reduceMul, Nat.reduceSub, BEq.rfl, beq_self_eq_true, Int.reduceToNat]; done)
def D_impl_monthDays : DF
  | [x0, x1] => some (.int .i64 (impl_monthDays (rdI x0) (rdI x1)), false, [wI .i64 x0, wI .i64 x1, 1 ≤ (rdI x1), (rdI x1) ≤ 12])
  | _ => none
theorem D_impl_monthDays_ok : OkD Tryz.prog 108 D_impl_monthDays := by
  intro xs r z ob h ho
  unfold D_impl_monthDays at h
  split at h
  · simp only [Option.some.injEq, Prod.mk.injEq] at h
    obtain ⟨rfl, rfl, rfl⟩ := h
    obtain ⟨h0, h1, hp0, hp1, _⟩ := ho
    exact Den.sim (impl_monthDays_den _ _ hp0 hp1) (simOL_cons (wI_sim h0).1 <| simOL_cons (wI_sim h1).1 <| trivial) (noIdL_cons (wI_sim h0).2 <| noIdL_cons (wI_sim h1).2 <| rfl) rfl
  · cases h
end Go.Ab

namespace Go.Ab
open Go Go.Proofs
theorem impl_yearDays_DD : DOk Tryz.prog (DD [(151, dP D_impl_IsLeap)]) := DD_cons D_impl_IsLeap_ok.e <| DD_nil _
def impl_yearDays (a0 : Int) : Int :=
  (bif (impl_IsLeap a0) then 366 else 365)
theorem impl_yearDays_den (a0 : Int)  : Den Tryz.prog 114 [.int .i64 a0] (.int .i64 (impl_yearDays a0)) := by
  generalize hR : impl_yearDays a0 = r
  unfold impl_yearDays at hR
  refine den_intro G_ok Tryz.func114 (by kernel_rfl) rfl Tryz.ntmps114 (by rw [Tryz.results114]) (by simp) rfl ?_
  intro c hL hc hk
  clear hL
  simp only [pars, Nat.zero_add]
  refine AWP.seq ?_
  refine AWP.regS G_ok impl_yearDays_DD hc (by kernel_rfl) (fun K hK => ?_); simp only [ea, gv, sv, D_impl_IsLeap, reduceCtorEq, reduceIte, Nat.reduceBEq, Nat.reduceAdd, Nat.reduceEqDiff, Nat.reduceLT, Nat.reduceLeDiff, Nat.reduceMul, Nat.reduceSub, BEq.rfl, beq_self_eq_true, Int.reduceToNat]
  (refine hK _ ?_)
  clear hK K
  refine AWP.seq ?_
  refine AWP.seq ?_
  refine AWP.regS G_ok impl_yearDays_DD hc (by kernel_rfl) (fun K hK => ?_); simp only [ea, gv, sv, D_impl_IsLeap, reduceCtorEq, reduceIte, Nat.reduceBEq, Nat.reduceAdd, Nat.reduceEqDiff, Nat.reduceLT, Nat.reduceLeDiff, Nat.reduceMul, Nat.reduceSub, BEq.rfl, beq_self_eq_true, Int.reduceToNat]
  (refine hK _ ?_)
  clear hK K
  refine AWP.cond rfl (fun hb => ?_) (fun hb => ?_)
  · (simp only [hb, cond_true] at hR)
    refine AWP.seq ?_
    refine AWP.regS G_ok impl_yearDays_DD hc (by kernel_rfl) (fun K hK => ?_); simp only [ea, gv, sv, D_impl_IsLeap, reduceCtorEq, reduceIte, Nat.reduceBEq, Nat.reduceAdd, Nat.reduceEqDiff, Nat.reduceLT, Nat.reduceLeDiff, Nat.reduceMul, Nat.reduceSub, BEq.rfl, beq_self_eq_true, Int.reduceToNat]
    (refine hK _ ?_)
    clear hK K
    refine AWP.ret ?_
    subst hR
    (simp only [en, si, ea, gv, sv, hk, reduceCtorEq, reduceIte, Nat.reduceBEq, Nat.reduceAdd, Nat.reduceEqDiff, Nat.reduceLT, Nat.reduceLeDiff, Nat.reduceMul, Nat.reduceSub, BEq.rfl, beq_self_eq_true, Int.reduceToNat]; done)
  · (simp only [hb, cond_false] at hR)
    refine AWP.skip ?_
    refine AWP.seq ?_
    refine AWP.regS G_ok impl_yearDays_DD hc (by kernel_rfl) (fun K hK => ?_); simp only [ea, gv, sv, D_impl_IsLeap, reduceCtorEq, reduceIte, Nat.reduceBEq, Nat.reduceAdd, Nat.reduceEqDiff, Nat.reduceLT, Nat.reduceLeDiff, Nat.reduceMul, Nat.reduceSub, BEq.rfl, beq_self_eq_true, Int.reduceToNat]
    (refine hK _ ?_)
    clear hK K
    refine AWP.ret ?_
    subst hR
    (simp only [en, si, ea, gv, sv, hk, reduceCtorEq, reduceIte, Nat.reduceBEq, Nat.reduceAdd, Nat.reduceEqDiff, Nat.reduceLT, Nat.reduceLeDiff, Nat.reduceMul, Nat.reduceSub, BEq.rfl, beq_self_eq_true, Int.reduceToNat]; done)
def D_impl_yearDays : DF
  | [x0] => some (.int .i64 (impl_yearDays (rdI x0)), false, [wI .i64 x0])
  | _ => none
theorem D_impl_yearDays_ok : OkD Tryz.prog 114 D_impl_yearDays := by
  intro xs r z ob h ho
  unfold D_impl_yearDays at h
  split at h
  · simp only [Option.some.injEq, Prod.mk.injEq] at h
    obtain ⟨rfl, rfl, rfl⟩ := h
    obtain ⟨h0, _⟩ := ho
    exact Den.sim (impl_yearDays_den _ ) (simOL_cons (wI_sim h0).1 <| trivial) (noIdL_cons (wI_sim h0).2 <| rfl) rfl
  · cases h
end Go.Ab

namespace Go.Ab
open Go
def leapD (y : Int) : Bool := (((y.tmod 4 == 0) && (y.tmod 100 != 0)) || (y.tmod 400 == 0))
theorem wrap_id {n : Int} (h1 : -9223372036854775808 ≤ n) (h2 : n ≤ 9223372036854775807) : IntKind.wrap .i64 n = n := by
  rw [IntKind.wrap_i64]; omega
theorem month_cases {m : Int} (h1 : 1 ≤ m) (h2 : m ≤ 12) : m = 1 ∨ m = 2 ∨ m = 3 ∨ m = 4 ∨ m = 5 ∨ m = 6 ∨ m = 7 ∨ m = 8 ∨ m = 9 ∨ m = 10 ∨ m = 11 ∨ m = 12 := by omega
def ybD (y : Int) : Int := 365 * (y - 2000) + (y - 1997) / 4 - (y - 1901) / 100 + (y - 1601) / 400
def mbD (l : Bool) (m : Nat) : Nat := ([0, 0, 31, 59, 90, 120, 151, 181, 212, 243, 273, 304, 334] : List Nat).getD m 0 + (bif l && Nat.blt 2 m then 1 else 0)
def mdD (l : Bool) (m : Nat) : Nat := ([0, 31, 28, 31, 30, 31, 30, 31, 31, 30, 31, 30, 31] : List Nat).getD m 0 + (bif l && Nat.beq 2 m then 1 else 0)
theorem mb_mono : ∀ (l : Bool) (m m' : Fin 13), 1 ≤ m.val → m < m' → mbD l m + mdD l m ≤ mbD l m' := by decide
theorem mdD_le' : ∀ (l : Bool) (m : Fin 13), mdD l m ≤ 31 := by decide
theorem mdD_le {l : Bool} {m : Int} (h1 : 1 ≤ m) (h2 : m ≤ 12) : mdD l m.toNat ≤ 31 := mdD_le' l ⟨m.toNat, by omega⟩
theorem mb_next : ∀ (l : Bool) (m : Fin 12), 1 ≤ m.val → mbD l (m.val + 1) = mbD l m + mdD l m := by decide
def DateIs (a y m d : Int) : Prop := 2000 ≤ y ∧ 1 ≤ m ∧ m ≤ 12 ∧ 1 ≤ d ∧ d ≤ mdD (leapD y) m.toNat ∧ a = ybD y + mbD (leapD y) m.toNat + d - 1
theorem leap_yb (y : Int) (h : 2000 ≤ y) : ybD (y + 1) = ybD y + 365 + (bif leapD y then 1 else 0) := by
  have e1 : y.tmod 4 = y % 4 := Int.tmod_eq_emod_of_nonneg (by omega)
  have e2 : y.tmod 100 = y % 100 := Int.tmod_eq_emod_of_nonneg (by omega)
  have e3 : y.tmod 400 = y % 400 := Int.tmod_eq_emod_of_nonneg (by omega)
  by_cases hc : (y % 4 = 0 ∧ y % 100 ≠ 0) ∨ y % 400 = 0
  · have hl : leapD y = true := by unfold leapD; rw [e1, e2, e3]; simpa using hc
    rw [hl]; simp only [cond_true]; unfold ybD; omega
  · have hl : leapD y = false := by unfold leapD; rw [e1, e2, e3]; simpa using hc
    rw [hl]; simp only [cond_false]; unfold ybD; omega
theorem yb_nonneg {y : Int} (h : 2000 ≤ y) : 0 ≤ ybD y := by unfold ybD; omega
theorem yb_mono (y y' : Int) (h : y ≤ y') : ybD y ≤ ybD y' := by unfold ybD; omega
theorem year_le {y : Int} (h : ybD y ≤ 99999) : y ≤ 2273 := by unfold ybD at h; omega
theorem mb_succ {l : Bool} {m : Int} (h1 : 1 ≤ m) (h2 : m ≤ 11) : mbD l (m + 1).toNat = mbD l m.toNat + mdD l m.toNat := by
  have := mb_next l ⟨m.toNat, by omega⟩ (by show 1 ≤ m.toNat; omega)
  rw [show (m + 1).toNat = m.toNat + 1 by omega]
  exact this
theorem mb_last (l : Bool) : mbD l 12 + mdD l 12 = 365 + (bif l then 1 else 0) := by cases l <;> rfl
theorem mb_first (l : Bool) : mbD l 1 = 0 := by cases l <;> rfl
theorem mb_end {l : Bool} {m : Int} (h1 : 1 ≤ m) (h2 : m ≤ 12) : mbD l m.toNat + mdD l m.toNat ≤ 365 + (bif l then 1 else 0) := by
  rw [← mb_last l]
  by_cases h : m = 12
  · subst h; exact Nat.le_refl _
  · have := mb_mono l ⟨m.toNat, by omega⟩ ⟨12, by omega⟩ (by show 1 ≤ m.toNat; omega) (by show m.toNat < 12; omega)
    have h3 : mbD l m.toNat + mdD l m.toNat ≤ mbD l 12 := this
    omega
theorem DateIs.unique {a y m d y' m' d' : Int} (h : DateIs a y m d) (h' : DateIs a y' m' d') : y = y' ∧ m = m' ∧ d = d' := by
  obtain ⟨hy, hm1, hm2, hd1, hd2, ha⟩ := h
  obtain ⟨hy', hm1', hm2', hd1', hd2', ha'⟩ := h'
  have e1 := mb_end (l := leapD y) hm1 hm2
  have e1' := mb_end (l := leapD y') hm1' hm2'
  have l1 := leap_yb y hy
  have l1' := leap_yb y' hy'
  have hyy : y = y' := by
    by_cases h1 : y < y'
    · have := yb_mono (y + 1) y' (by omega)
      cases hl : leapD y <;> cases hl' : leapD y' <;> simp only [hl, hl', cond_true, cond_false] at * <;> omega
    · by_cases h2 : y' < y
      · have := yb_mono (y' + 1) y (by omega)
        cases hl : leapD y <;> cases hl' : leapD y' <;> simp only [hl, hl', cond_true, cond_false] at * <;> omega
      · omega
  subst hyy
  have hmm : m = m' := by
    by_cases h1 : m < m'
    · have := mb_mono (leapD y) ⟨m.toNat, by omega⟩ ⟨m'.toNat, by omega⟩ (by show 1 ≤ m.toNat; omega) (by show m.toNat < m'.toNat; omega)
      have h3 : mbD (leapD y) m.toNat + mdD (leapD y) m.toNat ≤ mbD (leapD y) m'.toNat := this
      omega
    · by_cases h2 : m' < m
      · have := mb_mono (leapD y) ⟨m'.toNat, by omega⟩ ⟨m.toNat, by omega⟩ (by show 1 ≤ m'.toNat; omega) (by show m'.toNat < m.toNat; omega)
        have h3 : mbD (leapD y) m'.toNat + mdD (leapD y) m'.toNat ≤ mbD (leapD y) m.toNat := this
        omega
      · omega
  subst hmm
  exact ⟨rfl, rfl, by omega⟩
theorem loopW_end {ρ σ : Type} {body : σ → Except ρ σ} {I : σ → Prop} {Q : ρ → Prop} {M : σ → Nat} (hi : ∀ s, I s → match body s with | .error r => Q r | .ok t => I t ∧ M t < M s) :
    ∀ (k : Nat) (s : σ), I s → M s < k → ∃ r, loopW body k s = .error r ∧ Q r
  | 0, s, h, hk => by omega
  | k + 1, s, h, hk => by
    have := hi s h
    simp only [loopW]
    cases hb : body s with
    | error r => simp only [hb] at this ⊢; exact ⟨r, rfl, this⟩
    | ok t => simp only [hb] at this ⊢; exact loopW_end hi k t this.1 (by omega)
end Go.Ab

namespace Go.Ab
open Go Go.Proofs
def restD (y m : Int) : Int := (bif impl_IsLeap y && decide (m ≤ 2) then 1 else 0) + ([365, 334, 306, 275, 245, 214, 184, 153, 122, 92, 61, 31] : List Int).getD (m - 1).toNat 0
theorem monthDays_at (y : Int) : impl_monthDays y 1 = 31 ∧ impl_monthDays y 2 = (bif impl_IsLeap y then 29 else 28) ∧ impl_monthDays y 3 = 31 ∧ impl_monthDays y 4 = 30 ∧ impl_monthDays y 5 = 31 ∧ impl_monthDays y 6 = 30
    ∧ impl_monthDays y 7 = 31 ∧ impl_monthDays y 8 = 31 ∧ impl_monthDays y 9 = 30 ∧ impl_monthDays y 10 = 31 ∧ impl_monthDays y 11 = 30 ∧ impl_monthDays y 12 = 31 := by
  simp [impl_monthDays, IntKind.wrap_i64]
theorem restD_one (y : Int) : restD y 1 = impl_yearDays y := by
  unfold impl_yearDays restD
  cases impl_IsLeap y <;> rfl
theorem restD_step (y m d : Int) (h1 : 1 ≤ m) (h2 : m ≤ 12) (h3 : d < restD y m) (h4 : impl_monthDays y m ≤ d) : m ≤ 11 ∧ d - impl_monthDays y m < restD y (m + 1) ∧ 28 ≤ impl_monthDays y m ∧ impl_monthDays y m ≤ 31 := by
  obtain ⟨e1, e2, e3, e4, e5, e6, e7, e8, e9, e10, e11, e12⟩ := monthDays_at y
  rcases month_cases h1 h2 with rfl | rfl | rfl | rfl | rfl | rfl | rfl | rfl | rfl | rfl | rfl | rfl <;>
    simp only [*] at h4 ⊢ <;> simp [restD] at h3 ⊢ <;> cases hl : impl_IsLeap y <;> simp_all <;> omega
theorem monthDays_ge (y m : Int) (h1 : 1 ≤ m) (h2 : m ≤ 12) : 28 ≤ impl_monthDays y m ∧ impl_monthDays y m ≤ 31 := by
  obtain ⟨e1, e2, e3, e4, e5, e6, e7, e8, e9, e10, e11, e12⟩ := monthDays_at y
  rcases month_cases h1 h2 with rfl | rfl | rfl | rfl | rfl | rfl | rfl | rfl | rfl | rfl | rfl | rfl <;> simp only [*] <;> cases impl_IsLeap y <;> simp
end Go.Ab

namespace Go.Ab
open Go Go.Proofs
theorem impl_yearDays_eq (y : Int) : impl_yearDays y = 365 ∨ impl_yearDays y = 366 := by
  unfold impl_yearDays
  cases impl_IsLeap y <;> simp
end Go.Ab

namespace Go.Ab
open Go Go.Proofs
theorem impl_dateOf_DD : DOk Tryz.prog (DD [(108, dP D_impl_monthDays), (114, dP D_impl_yearDays)]) := DD_cons D_impl_monthDays_ok.e <| DD_cons D_impl_yearDays_ok.e <| DD_nil _
def impl_dateOf_b1 (a0 : Int) (s1 : Int × Int) : Except (Sum ((Int × Int × Int)) (Int × Int)) (Int × Int) :=
  (bif decide ((impl_yearDays s1.2) ≤ s1.1) then .ok (IntKind.wrap .i64 (s1.1 - (impl_yearDays s1.2)), IntKind.wrap .i64 (s1.2 + 1)) else .error (.inr (s1.1, s1.2)))
def impl_dateOf_b2 (a0 : Int) (s1 : Int × Int) (s2 : Int × Int) : Except (Sum ((Int × Int × Int)) (Int × Int)) (Int × Int) :=
  (bif decide ((impl_monthDays s1.2 s2.2) ≤ s2.1) then .ok (IntKind.wrap .i64 (s2.1 - (impl_monthDays s1.2 s2.2)), IntKind.wrap .i64 (s2.2 + 1)) else .error (.inr (s2.1, s2.2)))
def impl_dateOf (a0 : Int) : (Int × Int × Int) :=
  (match loopW (impl_dateOf_b1 a0) (((a0).toNat) + 1) (a0, 2000) with | .error (.inl e) => e | .error (.inr s1) => (match loopW (impl_dateOf_b2 a0 s1) (((s1.1).toNat) + 1) (s1.1, 1) with | .error (.inl e) => e | .error (.inr s2) => (s1.2, s2.2, IntKind.wrap .i64 (s2.1 + 1)) | .ok _ => default) | .ok _ => default)
theorem impl_dateOf_den (a0 : Int) (hp0 : 0 ≤ a0) (hp1 : a0 ≤ 99999) : Den Tryz.prog 69 [.int .i64 a0] (.tup [.int .i64 ((impl_dateOf a0).1), .int .i64 ((impl_dateOf a0).2.1), .int .i64 ((impl_dateOf a0).2.2)]) := by
  generalize hR : impl_dateOf a0 = r
  unfold impl_dateOf at hR
  refine den_intro G_ok Tryz.func69 (by kernel_rfl) rfl Tryz.ntmps69 (by rw [Tryz.results69]) (by simp) rfl ?_
  intro c hL hc hk
  clear hL
  simp only [pars, Nat.zero_add]
  refine AWP.seq ?_
  refine AWP.regS G_ok impl_dateOf_DD hc (by kernel_rfl) (fun K hK => ?_); simp only [ea, gv, sv, D_impl_monthDays, D_impl_yearDays, reduceCtorEq, reduceIte, Nat.reduceBEq, Nat.reduceAdd, Nat.reduceEqDiff, Nat.reduceLT, Nat.reduceLeDiff, Nat.reduceMul, Nat.reduceSub, BEq.rfl, beq_self_eq_true, Int.reduceToNat]
  (refine hK _ ?_)
  clear hK K
  refine AWP.seq ?_
  refine AWP.regS G_ok impl_dateOf_DD hc (by kernel_rfl) (fun K hK => ?_); simp only [ea, gv, sv, D_impl_monthDays, D_impl_yearDays, reduceCtorEq, reduceIte, Nat.reduceBEq, Nat.reduceAdd, Nat.reduceEqDiff, Nat.reduceLT, Nat.reduceLeDiff, Nat.reduceMul, Nat.reduceSub, BEq.rfl, beq_self_eq_true, Int.reduceToNat]
  (refine hK _ ?_)
  clear hK K
  refine AWP.seq ?_
  refine AWP.block ?_
  generalize hz1 : loopW (impl_dateOf_b1 a0) (((a0).toNat) + 1) (a0, 2000) = z1 at hR
  refine AWP.whileW (impl_dateOf_b1 a0) (fun s1 => ⟨[(0, .int .i64 s1.1), (5, .int .i64 s1.2), (6, .int .i64 1)], []⟩) (fun s1 => 0 ≤ s1.1 ∧ 2000 ≤ s1.2 ∧ s1.2 - 2000 + s1.1 ≤ a0) (fun s1 => (s1.1).toNat) (((a0).toNat) + 1) (a0, 2000) [] hz1 (by omega) (by ((and_intros <;> simp only [ln] <;> omega))) (by (simp only [si, ea, gv, sv, hk, reduceCtorEq, reduceIte, Nat.reduceBEq, Nat.reduceAdd, Nat.reduceEqDiff, Nat.reduceLT, Nat.reduceLeDiff, Nat.reduceMul, Nat.reduceSub, BEq.rfl, beq_self_eq_true, Int.reduceToNat]; trivial)) ?_
  clear hz1
  intro s1 k1 hW1 hm1 hz1
  simp only [impl_dateOf_b1] at hz1
  refine AWP.seq ?_
  refine AWP.seq ?_
  refine AWP.regS G_ok impl_dateOf_DD hc (by kernel_rfl) (fun K hK => ?_); simp only [ea, gv, sv, D_impl_monthDays, D_impl_yearDays, reduceCtorEq, reduceIte, Nat.reduceBEq, Nat.reduceAdd, Nat.reduceEqDiff, Nat.reduceLT, Nat.reduceLeDiff, Nat.reduceMul, Nat.reduceSub, BEq.rfl, beq_self_eq_true, Int.reduceToNat]
  (refine hK _ ?_)
  clear hK K
  refine AWP.cond rfl (fun hb => ?_) (fun hb => ?_)
  · (simp only [hb, cond_true] at hz1)
    refine AWP.skip ?_
    refine AWP.block ?_
    refine AWP.seq ?_
    refine AWP.regS G_ok impl_dateOf_DD hc (by kernel_rfl) (fun K hK => ?_); simp only [ea, gv, sv, D_impl_monthDays, D_impl_yearDays, reduceCtorEq, reduceIte, Nat.reduceBEq, Nat.reduceAdd, Nat.reduceEqDiff, Nat.reduceLT, Nat.reduceLeDiff, Nat.reduceMul, Nat.reduceSub, BEq.rfl, beq_self_eq_true, Int.reduceToNat]
    (refine hK _ ?_)
    clear hK K
    refine AWP.regS G_ok impl_dateOf_DD hc (by kernel_rfl) (fun K hK => ?_); simp only [ea, gv, sv, D_impl_monthDays, D_impl_yearDays, reduceCtorEq, reduceIte, Nat.reduceBEq, Nat.reduceAdd, Nat.reduceEqDiff, Nat.reduceLT, Nat.reduceLeDiff, Nat.reduceMul, Nat.reduceSub, BEq.rfl, beq_self_eq_true, Int.reduceToNat]
    (refine hK _ ?_)
    clear hK K
    exact ⟨_, [], by (have h9 := impl_yearDays_eq s1.2; simp only [ob, ln] at *; omega), by (have h9 := impl_yearDays_eq s1.2; simp only [ob, ln] at *; omega), hz1, by (simp only [si, ea, gv, sv, hk, reduceCtorEq, reduceIte, Nat.reduceBEq, Nat.reduceAdd, Nat.reduceEqDiff, Nat.reduceLT, Nat.reduceLeDiff, Nat.reduceMul, Nat.reduceSub, BEq.rfl, beq_self_eq_true, Int.reduceToNat]; trivial)⟩
  · (simp only [hb, cond_false] at hz1)
    refine AWP.exit ?_
    refine exitTo_here ?_
    subst hz1; dsimp only at hR
    refine AWP.seq ?_
    refine AWP.block ?_
    generalize hz2 : loopW (impl_dateOf_b2 a0 (s1.1, s1.2)) (((s1.1).toNat) + 1) (s1.1, 1) = z2 at hR
    refine AWP.whileW (impl_dateOf_b2 a0 (s1.1, s1.2)) (fun s2 => ⟨[(0, .int .i64 s2.1), (5, .int .i64 s1.2), (6, .int .i64 s2.2)], []⟩) (fun s2 => 0 ≤ s2.1 ∧ s2.1 ≤ 99999 ∧ 1 ≤ s2.2 ∧ s2.2 ≤ 12 ∧ s2.1 < restD s1.2 s2.2) (fun s2 => (s2.1).toNat) (((s1.1).toNat) + 1) (s1.1, 1) [] hz2 (by omega) (by (have h9 := impl_yearDays_eq s1.2; have h8 := restD_one s1.2; simp only [ob, ln] at *; omega)) (by (simp only [si, ea, gv, sv, hk, reduceCtorEq, reduceIte, Nat.reduceBEq, Nat.reduceAdd, Nat.reduceEqDiff, Nat.reduceLT, Nat.reduceLeDiff, Nat.reduceMul, Nat.reduceSub, BEq.rfl, beq_self_eq_true, Int.reduceToNat]; trivial)) ?_
    clear hz2
    intro s2 k2 hW2 hm2 hz2
    simp only [impl_dateOf_b2] at hz2
    refine AWP.seq ?_
    refine AWP.seq ?_
    refine AWP.regS G_ok impl_dateOf_DD hc (by kernel_rfl) (fun K hK => ?_); simp only [ea, gv, sv, D_impl_monthDays, D_impl_yearDays, reduceCtorEq, reduceIte, Nat.reduceBEq, Nat.reduceAdd, Nat.reduceEqDiff, Nat.reduceLT, Nat.reduceLeDiff, Nat.reduceMul, Nat.reduceSub, BEq.rfl, beq_self_eq_true, Int.reduceToNat]
    (refine ⟨by (omega), hK _ ?_⟩)
    clear hK K
    refine AWP.cond rfl (fun hb => ?_) (fun hb => ?_)
    · (simp only [hb, cond_true] at hz2)
      refine AWP.skip ?_
      refine AWP.block ?_
      refine AWP.seq ?_
      refine AWP.regS G_ok impl_dateOf_DD hc (by kernel_rfl) (fun K hK => ?_); simp only [ea, gv, sv, D_impl_monthDays, D_impl_yearDays, reduceCtorEq, reduceIte, Nat.reduceBEq, Nat.reduceAdd, Nat.reduceEqDiff, Nat.reduceLT, Nat.reduceLeDiff, Nat.reduceMul, Nat.reduceSub, BEq.rfl, beq_self_eq_true, Int.reduceToNat]
      (refine ⟨by (omega), hK _ ?_⟩)
      clear hK K
      refine AWP.regS G_ok impl_dateOf_DD hc (by kernel_rfl) (fun K hK => ?_); simp only [ea, gv, sv, D_impl_monthDays, D_impl_yearDays, reduceCtorEq, reduceIte, Nat.reduceBEq, Nat.reduceAdd, Nat.reduceEqDiff, Nat.reduceLT, Nat.reduceLeDiff, Nat.reduceMul, Nat.reduceSub, BEq.rfl, beq_self_eq_true, Int.reduceToNat]
      (refine hK _ ?_)
      clear hK K
      exact ⟨_, [], by (have hbq := of_decide_eq_true hb; have h9 := restD_step s1.2 s2.2 s2.1 (by omega) (by omega) (by omega) hbq; have e1 := wrap_id (n := s2.1 - impl_monthDays s1.2 s2.2) (by omega) (by omega); have e2 := wrap_id (n := s2.2 + 1) (by omega) (by omega); simp only [e1, e2]; omega), by (have hbq := of_decide_eq_true hb; have h9 := restD_step s1.2 s2.2 s2.1 (by omega) (by omega) (by omega) hbq; have e1 := wrap_id (n := s2.1 - impl_monthDays s1.2 s2.2) (by omega) (by omega); have e2 := wrap_id (n := s2.2 + 1) (by omega) (by omega); simp only [e1, e2]; omega), hz2, by (simp only [si, ea, gv, sv, hk, reduceCtorEq, reduceIte, Nat.reduceBEq, Nat.reduceAdd, Nat.reduceEqDiff, Nat.reduceLT, Nat.reduceLeDiff, Nat.reduceMul, Nat.reduceSub, BEq.rfl, beq_self_eq_true, Int.reduceToNat]; trivial)⟩
    · (simp only [hb, cond_false] at hz2)
      refine AWP.exit ?_
      refine exitTo_here ?_
      subst hz2; dsimp only at hR
      refine AWP.seq ?_
      refine AWP.regS G_ok impl_dateOf_DD hc (by kernel_rfl) (fun K hK => ?_); simp only [ea, gv, sv, D_impl_monthDays, D_impl_yearDays, reduceCtorEq, reduceIte, Nat.reduceBEq, Nat.reduceAdd, Nat.reduceEqDiff, Nat.reduceLT, Nat.reduceLeDiff, Nat.reduceMul, Nat.reduceSub, BEq.rfl, beq_self_eq_true, Int.reduceToNat]
      (refine hK _ ?_)
      clear hK K
      refine AWP.ret ?_
      subst hR
      (simp only [en, si, ea, gv, sv, hk, reduceCtorEq, reduceIte, Nat.reduceBEq, Nat.reduceAdd, Nat.reduceEqDiff, Nat.reduceLT, Nat.reduceLeDiff, Nat.reduceMul, Nat.reduceSub, BEq.rfl, beq_self_eq_true, Int.reduceToNat]; done)
def D_impl_dateOf : DF
  | [x0] => some (.tup [.int .i64 ((impl_dateOf (rdI x0)).1), .int .i64 ((impl_dateOf (rdI x0)).2.1), .int .i64 ((impl_dateOf (rdI x0)).2.2)], false, [wI .i64 x0, 0 ≤ (rdI x0), (rdI x0) ≤ 99999])
  | _ => none
theorem D_impl_dateOf_ok : OkD Tryz.prog 69 D_impl_dateOf := by
  intro xs r z ob h ho
  unfold D_impl_dateOf at h
  split at h
  · simp only [Option.some.injEq, Prod.mk.injEq] at h
    obtain ⟨rfl, rfl, rfl⟩ := h
    obtain ⟨h0, hp0, hp1, _⟩ := ho
    exact Den.sim (impl_dateOf_den _ hp0 hp1) (simOL_cons (wI_sim h0).1 <| trivial) (noIdL_cons (wI_sim h0).2 <| rfl) rfl
  · cases h
end Go.Ab

namespace Go.Ab
open Go Go.Proofs
theorem leap_eq {y : Int} (h1 : 2000 ≤ y) (h2 : y ≤ 2273) : impl_IsLeap y = leapD y := by
  unfold impl_IsLeap leapD impl_isYear impl_within
  simp [h1, h2]
theorem mdD_impl {y m : Int} (hy1 : 2000 ≤ y) (hy2 : y ≤ 2273) (h1 : 1 ≤ m) (h2 : m ≤ 12) : impl_monthDays y m = mdD (leapD y) m.toNat := by
  obtain ⟨e1, e2, e3, e4, e5, e6, e7, e8, e9, e10, e11, e12⟩ := monthDays_at y
  rw [leap_eq hy1 hy2] at e2
  rcases month_cases h1 h2 with rfl | rfl | rfl | rfl | rfl | rfl | rfl | rfl | rfl | rfl | rfl | rfl <;> simp only [*] <;> cases leapD y <;> rfl
theorem impl_dateOf_is (a : Int) (h1 : 0 ≤ a) (h2 : a ≤ 99999) : ∃ y m d, impl_dateOf a = (y, m, d) ∧ y ≤ 2273 ∧ DateIs a y m d := by
  have L1 := loopW_end (body := impl_dateOf_b1 a) (I := fun s => 0 ≤ s.1 ∧ 2000 ≤ s.2 ∧ ybD s.2 + s.1 = a)
    (Q := fun r => ∃ s : Int × Int, r = .inr s ∧ 0 ≤ s.1 ∧ 2000 ≤ s.2 ∧ ybD s.2 + s.1 = a ∧ s.1 < impl_yearDays s.2) (M := fun s => s.1.toNat) (by
      rintro ⟨d, y⟩ ⟨i1, i2, i3⟩
      simp only [impl_dateOf_b1] at i1 i2 i3 ⊢
      have hy := impl_yearDays_eq y
      have hle := year_le (y := y) (by omega)
      have hnn := yb_nonneg i2
      by_cases hc : impl_yearDays y ≤ d
      · have hyd : impl_yearDays y = 365 + (bif leapD y then 1 else 0) := by
          unfold impl_yearDays; rw [leap_eq i2 hle]; cases leapD y <;> rfl
        have hn := leap_yb y i2
        simp only [hc, decide_true, cond_true]
        rw [wrap_id (by omega) (by omega), wrap_id (by omega) (by omega)]
        refine ⟨⟨by omega, by omega, by omega⟩, by omega⟩
      · simp only [hc, decide_false, cond_false]
        exact ⟨_, rfl, i1, i2, i3, by show d < impl_yearDays y; omega⟩) (a.toNat + 1) (a, 2000) ⟨h1, by show (2000 : Int) ≤ 2000; omega, by simp [ybD]⟩ (by show a.toNat < a.toNat + 1; omega)
  obtain ⟨r, e1, s, rfl, q1, q2, q3, q4⟩ := L1
  have hle := year_le (y := s.2) (by omega)
  have hnn := yb_nonneg q2
  have hyd := impl_yearDays_eq s.2
  have L2 := loopW_end (body := impl_dateOf_b2 a s) (I := fun t => 0 ≤ t.1 ∧ 1 ≤ t.2 ∧ t.2 ≤ 12 ∧ t.1 < restD s.2 t.2 ∧ (mbD (leapD s.2) t.2.toNat : Int) + t.1 = s.1)
    (Q := fun r => ∃ t : Int × Int, r = .inr t ∧ 0 ≤ t.1 ∧ 1 ≤ t.2 ∧ t.2 ≤ 12 ∧ t.1 < impl_monthDays s.2 t.2 ∧ (mbD (leapD s.2) t.2.toNat : Int) + t.1 = s.1) (M := fun t => t.1.toNat) (by
      rintro ⟨d, m⟩ ⟨i1, i2, i3, i4, i5⟩
      simp only [impl_dateOf_b2] at i1 i2 i3 i4 i5 ⊢
      by_cases hc : impl_monthDays s.2 m ≤ d
      · have hs := restD_step s.2 m d i2 i3 i4 hc
        have hm := mdD_impl q2 hle i2 i3
        have hn := mb_succ (l := leapD s.2) i2 hs.1
        simp only [hc, decide_true, cond_true]
        rw [wrap_id (by omega) (by omega), wrap_id (by omega) (by omega)]
        refine ⟨⟨by omega, by omega, by omega, hs.2.1, by omega⟩, by omega⟩
      · simp only [hc, decide_false, cond_false]
        exact ⟨_, rfl, i1, i2, i3, by show d < impl_monthDays s.2 m; omega, i5⟩) (s.1.toNat + 1) (s.1, 1) ⟨q1, by show (1 : Int) ≤ 1; omega, by show (1 : Int) ≤ 12; omega, by rw [restD_one]; exact q4, by show (mbD (leapD s.2) 1 : Int) + s.1 = s.1; rw [mb_first]; simp⟩ (by show s.1.toNat < s.1.toNat + 1; omega)
  obtain ⟨r2, e2, t, rfl, p1, p2, p3, p4, p5⟩ := L2
  have hm := mdD_impl q2 hle p2 p3
  have hw : IntKind.wrap .i64 (t.1 + 1) = t.1 + 1 := by
    have := (mb_end (l := leapD s.2) p2 p3)
    refine wrap_id (by omega) ?_
    cases hl : leapD s.2 <;> simp only [hl, cond_true, cond_false] at * <;> omega
  refine ⟨s.2, t.2, t.1 + 1, ?_, hle, q2, p2, p3, by omega, by omega, by omega⟩
  unfold impl_dateOf
  rw [e1]
  simp only
  rw [e2]
  simp only [hw]
theorem impl_dateOf_rng (a : Int) (h1 : 0 ≤ a) (h2 : a ≤ 99999) : 2000 ≤ (impl_dateOf a).1 ∧ (impl_dateOf a).1 ≤ 2273 ∧ 1 ≤ (impl_dateOf a).2.1 ∧ (impl_dateOf a).2.1 ≤ 12 ∧ 1 ≤ (impl_dateOf a).2.2 ∧ (impl_dateOf a).2.2 ≤ 31 := by
  obtain ⟨y, m, d, e, hy, h⟩ := impl_dateOf_is a h1 h2
  have hm := mdD_le (l := leapD y) h.2.1 h.2.2.1
  rw [e]
  exact ⟨h.1, hy, h.2.1, h.2.2.1, h.2.2.2.1, by show d ≤ 31; have := h.2.2.2.2.1; omega⟩
end Go.Ab

namespace Go.Ab
open Go Go.Proofs
theorem strings_Repeat_DD : DOk Tryz.prog (DD []) := DD_nil _
def strings_Repeat (a0 : (List UInt8)) (a1 : Int) : (List UInt8) := Go.Lib.repeatL a0 a1.toNat
theorem strings_Repeat_den (a0 : (List UInt8)) (a1 : Int) (hp0 : 0 ≤ a1) (hp1 : a1 ≤ 9223372036854775807) (hp2 : a0.length * a1.toNat ≤ 140737488355328) : Den Tryz.prog 115 [.str a0, .int .i64 a1] (.str (strings_Repeat a0 a1)) := by
  obtain ⟨c, rfl⟩ : ∃ c : Nat, a1 = c := ⟨a1.toNat, by omega⟩
  refine Den.plain ⟨_, Tryz.func115, rfl, rfl⟩ (by simp [NoOwnL, NoOwn]) ?_
  intro w M vs hI hr
  simp only [RepL] at hr
  obtain ⟨u0, us0, f0, g0, rfl, h0e, h0, u1, us1, f1, g1, rfl, h1e, h1, rfl, _⟩ := hr
  have e0 := h0.val_str
  have e1 := h1.val_int
  subst e0 e1
  have hsz : (⟨a0.toArray⟩ : ByteArray).size = a0.length := by simp [ByteArray.size]
  refine (Any.strings_Repeat Tryz.lays105 Tryz.Builder_Extra_105 ⟨a0.toArray⟩ c w (by omega) (by rw [hsz]; simpa using hp2)).mono ?_
  rintro e w' ⟨rfl, hB⟩
  exact ⟨_, rfl, below_grow hB, fun M' => rep_str _ (by unfold strings_Repeat; rw [repeatL_len]; simp only [Int.toNat_natCast] at hp2; unfold maxLen; show a0.length * c ≤ _; omega)⟩
def D_strings_Repeat : DF
  | [x0, x1] => some (.str (strings_Repeat (rdS x0) (rdI x1)), false, [wS x0, wI .i64 x1, 0 ≤ (rdI x1), (rdI x1) ≤ 9223372036854775807, (rdS x0).length * (rdI x1).toNat ≤ 140737488355328])
  | _ => none
theorem D_strings_Repeat_ok : OkD Tryz.prog 115 D_strings_Repeat := by
  intro xs r z ob h ho
  unfold D_strings_Repeat at h
  split at h
  · simp only [Option.some.injEq, Prod.mk.injEq] at h
    obtain ⟨rfl, rfl, rfl⟩ := h
    obtain ⟨h0, h1, hp0, hp1, hp2, _⟩ := ho
    exact Den.sim (strings_Repeat_den _ _ hp0 hp1 hp2) (simOL_cons (wS_sim h0).1 <| simOL_cons (wI_sim h1).1 <| trivial) (noIdL_cons (wS_sim h0).2 <| noIdL_cons (wI_sim h1).2 <| rfl) rfl
  · cases h
end Go.Ab

namespace Go.Ab
open Go Go.Proofs
theorem strconv_FormatInt_DD : DOk Tryz.prog (DD []) := DD_nil _
def strconv_FormatInt (a0 : Int) (a1 : Int) : (List UInt8) := Go.Lib.itoa a0
theorem strconv_FormatInt_den (a0 : Int) (a1 : Int) (hp0 : a1 = 10) (hp1 : -9223372036854775808 ≤ a0) (hp2 : a0 ≤ 9223372036854775807) : Den Tryz.prog 71 [.int .i64 a0, .int .i64 a1] (.str (strconv_FormatInt a0 a1)) := by
  subst hp0
  refine Den.plain ⟨_, Tryz.func71, rfl, rfl⟩ (by simp [NoOwnL, NoOwn]) ?_
  intro w M vs hI hr
  simp only [RepL] at hr
  obtain ⟨u0, us0, f0, g0, rfl, h0e, h0, u1, us1, f1, g1, rfl, h1e, h1, rfl, _⟩ := hr
  have e0 := h0.val_int
  have e1 := h1.val_int
  subst e0 e1
  refine (Any.strconv_FormatInt_10 Tryz.laysM173 a0 hp1 hp2 w hI.1.1).mono ?_
  rintro e w' ⟨rfl, k, os, rfl⟩
  exact ⟨_, rfl, grow_drewN w k os, fun M' => rep_str _ (itoa_len hp1 hp2)⟩
def D_strconv_FormatInt : DF
  | [x0, x1] => some (.str (strconv_FormatInt (rdI x0) (rdI x1)), false, [wI .i64 x0, wI .i64 x1, (rdI x1) = 10, -9223372036854775808 ≤ (rdI x0), (rdI x0) ≤ 9223372036854775807])
  | _ => none
theorem D_strconv_FormatInt_ok : OkD Tryz.prog 71 D_strconv_FormatInt := by
  intro xs r z ob h ho
  unfold D_strconv_FormatInt at h
  split at h
  · simp only [Option.some.injEq, Prod.mk.injEq] at h
    obtain ⟨rfl, rfl, rfl⟩ := h
    obtain ⟨h0, h1, hp0, hp1, hp2, _⟩ := ho
    exact Den.sim (strconv_FormatInt_den _ _ hp0 hp1 hp2) (simOL_cons (wI_sim h0).1 <| simOL_cons (wI_sim h1).1 <| trivial) (noIdL_cons (wI_sim h0).2 <| noIdL_cons (wI_sim h1).2 <| rfl) rfl
  · cases h
end Go.Ab

namespace Go.Ab
open Go Go.Proofs
theorem impl_Decimal_DD : DOk Tryz.prog (DD [(71, dP D_strconv_FormatInt)]) := DD_cons D_strconv_FormatInt_ok.e <| DD_nil _
def impl_Decimal (a0 : Int) : (List UInt8) :=
  (strconv_FormatInt a0 10)
theorem impl_Decimal_den (a0 : Int) (hp0 : -9223372036854775808 ≤ a0) (hp1 : a0 ≤ 9223372036854775807) : Den Tryz.prog 33 [.int .i64 a0] (.str (impl_Decimal a0)) := by
  generalize hR : impl_Decimal a0 = r
  unfold impl_Decimal at hR
  refine den_intro G_ok Tryz.func33 (by kernel_rfl) rfl Tryz.ntmps33 (by rw [Tryz.results33]) (by simp) rfl ?_
  intro c hL hc hk
  clear hL
  simp only [pars, Nat.zero_add]
  refine AWP.seq ?_
  refine AWP.regS G_ok impl_Decimal_DD hc (by kernel_rfl) (fun K hK => ?_); simp only [ea, gv, sv, D_strconv_FormatInt, reduceCtorEq, reduceIte, Nat.reduceBEq, Nat.reduceAdd, Nat.reduceEqDiff, Nat.reduceLT, Nat.reduceLeDiff, Nat.reduceMul, Nat.reduceSub, BEq.rfl, beq_self_eq_true, Int.reduceToNat]
  (refine hK _ ?_)
  clear hK K
  refine AWP.seq ?_
  refine AWP.regS G_ok impl_Decimal_DD hc (by kernel_rfl) (fun K hK => ?_); simp only [ea, gv, sv, D_strconv_FormatInt, reduceCtorEq, reduceIte, Nat.reduceBEq, Nat.reduceAdd, Nat.reduceEqDiff, Nat.reduceLT, Nat.reduceLeDiff, Nat.reduceMul, Nat.reduceSub, BEq.rfl, beq_self_eq_true, Int.reduceToNat]
  (refine ⟨by (trivial), hK _ ?_⟩)
  clear hK K
  refine AWP.ret ?_
  subst hR
  (simp only [en, si, ea, gv, sv, hk, reduceCtorEq, reduceIte, Nat.reduceBEq, Nat.reduceAdd, Nat.reduceEqDiff, Nat.reduceLT, Nat.reduceLeDiff, Nat.reduceMul, Nat.reduceSub, BEq.rfl, beq_self_eq_true, Int.reduceToNat]; done)
def D_impl_Decimal : DF
  | [x0] => some (.str (impl_Decimal (rdI x0)), false, [wI .i64 x0, -9223372036854775808 ≤ (rdI x0), (rdI x0) ≤ 9223372036854775807])
  | _ => none
theorem D_impl_Decimal_ok : OkD Tryz.prog 33 D_impl_Decimal := by
  intro xs r z ob h ho
  unfold D_impl_Decimal at h
  split at h
  · simp only [Option.some.injEq, Prod.mk.injEq] at h
    obtain ⟨rfl, rfl, rfl⟩ := h
    obtain ⟨h0, hp0, hp1, _⟩ := ho
    exact Den.sim (impl_Decimal_den _ hp0 hp1) (simOL_cons (wI_sim h0).1 <| trivial) (noIdL_cons (wI_sim h0).2 <| rfl) rfl
  · cases h
end Go.Ab

namespace Go.Ab
open Go Go.Proofs
theorem strings_Repeat_len (a : List UInt8) (c : Int) : (strings_Repeat a c).length = a.length * c.toNat := by
  unfold strings_Repeat
  rw [repeatL_len]
end Go.Ab

namespace Go.Ab
open Go Go.Proofs
theorem itoa_len2 (n : Int) : (Go.Lib.itoa n).length ≤ n.natAbs + 2 := by
  unfold Go.Lib.itoa
  split
  · have := decDigits_len n.natAbs
    simp only [List.length_cons]
    omega
  · have := decDigits_len n.toNat
    omega
theorem impl_Decimal_eq (n : Int) : impl_Decimal n = Go.Lib.itoa n := rfl
theorem impl_Decimal_len (n : Int) : (impl_Decimal n).length ≤ n.natAbs + 2 := itoa_len2 n
end Go.Ab

namespace Go.Ab
open Go Go.Proofs
theorem impl_padded_DD : DOk Tryz.prog (DD [(115, dP D_strings_Repeat), (33, dP D_impl_Decimal)]) := DD_cons D_strings_Repeat_ok.e <| DD_cons D_impl_Decimal_ok.e <| DD_nil _
def impl_padded (a0 : Int) (a1 : Int) : (List UInt8) :=
  (strings_Repeat [48] (if 0 < IntKind.wrap .i64 (a1 - ((impl_Decimal a0).length : Int)) then IntKind.wrap .i64 (a1 - ((impl_Decimal a0).length : Int)) else 0)) ++ (impl_Decimal a0)
theorem impl_padded_den (a0 : Int) (a1 : Int) (hp0 : -1000000000000 ≤ a0) (hp1 : a0 ≤ 1000000000000) (hp2 : 0 ≤ a1) (hp3 : a1 ≤ 2) : Den Tryz.prog 70 [.int .i64 a0, .int .i64 a1] (.str (impl_padded a0 a1)) := by
  generalize hR : impl_padded a0 a1 = r
  unfold impl_padded at hR
  refine den_intro G_ok Tryz.func70 (by kernel_rfl) rfl Tryz.ntmps70 (by rw [Tryz.results70]) (by simp) rfl ?_
  intro c hL hc hk
  clear hL
  simp only [pars, Nat.zero_add]
  have hl0 := impl_Decimal_len a0
  refine AWP.seq ?_
  refine AWP.regS G_ok impl_padded_DD hc (by kernel_rfl) (fun K hK => ?_); simp only [ea, gv, sv, D_strings_Repeat, D_impl_Decimal, reduceCtorEq, reduceIte, Nat.reduceBEq, Nat.reduceAdd, Nat.reduceEqDiff, Nat.reduceLT, Nat.reduceLeDiff, Nat.reduceMul, Nat.reduceSub, BEq.rfl, beq_self_eq_true, Int.reduceToNat]
  (refine hK _ ?_)
  clear hK K
  refine AWP.seq ?_
  refine AWP.regS G_ok impl_padded_DD hc (by kernel_rfl) (fun K hK => ?_); simp only [ea, gv, sv, D_strings_Repeat, D_impl_Decimal, reduceCtorEq, reduceIte, Nat.reduceBEq, Nat.reduceAdd, Nat.reduceEqDiff, Nat.reduceLT, Nat.reduceLeDiff, Nat.reduceMul, Nat.reduceSub, BEq.rfl, beq_self_eq_true, Int.reduceToNat]
  (refine ⟨by (omega), hK _ ?_⟩)
  clear hK K
  refine AWP.seq ?_
  refine AWP.regS G_ok impl_padded_DD hc (by kernel_rfl) (fun K hK => ?_); simp only [ea, gv, sv, D_strings_Repeat, D_impl_Decimal, reduceCtorEq, reduceIte, Nat.reduceBEq, Nat.reduceAdd, Nat.reduceEqDiff, Nat.reduceLT, Nat.reduceLeDiff, Nat.reduceMul, Nat.reduceSub, BEq.rfl, beq_self_eq_true, Int.reduceToNat]
  (refine ⟨by ((simp only [ob, ln, bdv, strings_Repeat_len, sv] at *; omega)), hK _ ?_⟩)
  clear hK K
  refine AWP.ret ?_
  subst hR
  (simp only [en, si, ea, gv, sv, hk, reduceCtorEq, reduceIte, Nat.reduceBEq, Nat.reduceAdd, Nat.reduceEqDiff, Nat.reduceLT, Nat.reduceLeDiff, Nat.reduceMul, Nat.reduceSub, BEq.rfl, beq_self_eq_true, Int.reduceToNat]; done)
def D_impl_padded : DF
  | [x0, x1] => some (.str (impl_padded (rdI x0) (rdI x1)), false, [wI .i64 x0, wI .i64 x1, -1000000000000 ≤ (rdI x0), (rdI x0) ≤ 1000000000000, 0 ≤ (rdI x1), (rdI x1) ≤ 2])
  | _ => none
theorem D_impl_padded_ok : OkD Tryz.prog 70 D_impl_padded := by
  intro xs r z ob h ho
  unfold D_impl_padded at h
  split at h
  · simp only [Option.some.injEq, Prod.mk.injEq] at h
    obtain ⟨rfl, rfl, rfl⟩ := h
    obtain ⟨h0, h1, hp0, hp1, hp2, hp3, _⟩ := ho
    exact Den.sim (impl_padded_den _ _ hp0 hp1 hp2 hp3) (simOL_cons (wI_sim h0).1 <| simOL_cons (wI_sim h1).1 <| trivial) (noIdL_cons (wI_sim h0).2 <| noIdL_cons (wI_sim h1).2 <| rfl) rfl
  · cases h
end Go.Ab

namespace Go.Ab
open Go Go.Proofs
theorem impl_padded_len (a : Int) (h1 : 0 ≤ a) (h2 : a ≤ 1000) : (impl_padded a 2).length ≤ 2000 := by
  have hl := impl_Decimal_len a
  unfold impl_padded
  rw [List.length_append, strings_Repeat_len, IntKind.wrap_i64]
  simp only [List.length_cons, List.length_nil, Nat.zero_add, Nat.one_mul]
  split <;> omega
end Go.Ab

namespace Go.Ab
open Go Go.Lib
def splitC (c : UInt8) : List UInt8 → List (List UInt8)
  | [] => [[]]
  | b :: l => if b = c then [] :: splitC c l else match splitC c l with
    | [] => [[b]]
    | x :: r => (b :: x) :: r
theorem splitC_none (c : UInt8) : ∀ l : List UInt8, c ∉ l → splitC c l = [l]
  | [], _ => rfl
  | b :: l, h => by
    simp only [List.mem_cons, not_or] at h
    rw [splitC, if_neg (fun e => h.1 e.symm), splitC_none c l h.2]
theorem splitC_cons (c : UInt8) : ∀ (a l : List UInt8), c ∉ a → splitC c (a ++ c :: l) = a :: splitC c l
  | [], l, _ => by simp [splitC]
  | b :: a, l, h => by
    simp only [List.mem_cons, not_or] at h
    rw [List.cons_append, splitC, if_neg (fun e => h.1 e.symm), splitC_cons c a l h.2]
theorem split_eq (c : UInt8) : ∀ (n : Nat) (s : List UInt8), s.length ≤ n → splitK [c] 0 (count s [c]) s = splitC c s := by
  intro n
  induction n with
  | zero =>
    intro s h
    have : s = [] := List.length_eq_zero_iff.1 (by omega)
    subst this
    have hi : index [] [c] = -1 := by rw [index_one]; rfl
    rw [count_miss hi]
    rfl
  | succ n ih =>
    intro s h
    have h1 := index_one s c
    by_cases hm : indexByte s c = -1
    · rw [count_miss (by rw [h1]; exact hm)]
      have hn := indexByte_none hm
      rw [splitC_none c s (fun hc => by
        obtain ⟨k, hk⟩ := List.getElem?_of_mem hc
        exact hn k hk)]
      rfl
    · have hge := indexByte_ge s c
      obtain ⟨o, ho⟩ : ∃ o : Nat, indexByte s c = o := ⟨(indexByte s c).toNat, by omega⟩
      obtain ⟨e1, e2⟩ := indexByte_some ho
      have hio : index s [c] = (o : Int) := h1.trans ho
      rw [count_hit (by simp) hio, Nat.add_comm, splitK, if_neg (by rw [hio]; simp), hio]
      have hlt : o < s.length := (List.getElem?_eq_some_iff.1 e1).1
      have hs : s = s.take o ++ c :: s.drop (o + 1) := by
        conv => lhs; rw [← List.take_append_drop o s]
        rw [List.drop_eq_getElem_cons hlt]
        congr 2
        exact (List.getElem?_eq_some_iff.1 e1).2
      have hnot : c ∉ s.take o := fun hc => by
        obtain ⟨k, hk⟩ := List.getElem?_of_mem hc
        have hko : k < o := by
          have := (List.getElem?_eq_some_iff.1 hk).1
          simp at this; omega
        rw [List.getElem?_take_of_lt hko] at hk
        exact e2 k hko hk
      have hd : s.drop ((o : Int).toNat + [c].length) = s.drop (o + 1) := by simp
      rw [hd, show o + [c].length = o + 1 from rfl, ih (s.drop (o + 1)) (by simp; omega)]
      conv => rhs; rw [hs]
      rw [splitC_cons c _ _ hnot]
      simp
theorem splitC_len (c : UInt8) : ∀ (l : List UInt8), (splitC c l).length ≤ l.length + 1 ∧ ∀ x ∈ splitC c l, x.length ≤ l.length
  | [] => by simp [splitC]
  | b :: l => by
    obtain ⟨h1, h2⟩ := splitC_len c l
    simp only [splitC]
    split
    · simp only [List.length_cons, List.mem_cons]
      refine ⟨by omega, fun x hx => ?_⟩
      rcases hx with rfl | hx
      · simp
      · have := h2 x hx; omega
    · split
      · simp
      · rename_i x r he
        rw [he] at h1 h2
        simp only [List.length_cons, List.mem_cons] at h1 ⊢
        refine ⟨by omega, fun y hy => ?_⟩
        rcases hy with rfl | hy
        · have := h2 x (by simp); simp only [List.length_cons]; omega
        · have := h2 y (by simp [hy]); omega
end Go.Ab

namespace Go.Ab
open Go Go.Proofs
theorem impl_DateText_DD : DOk Tryz.prog (DD [(33, dP D_impl_Decimal), (42, dP D_impl_isDay), (69, dP D_impl_dateOf), (70, dP D_impl_padded)]) := DD_cons D_impl_Decimal_ok.e <| DD_cons D_impl_isDay_ok.e <| DD_cons D_impl_dateOf_ok.e <| DD_cons D_impl_padded_ok.e <| DD_nil _
def impl_DateText (a0 : Int) : (List UInt8) :=
  (bif (!(impl_isDay a0)) then [] else ((((impl_Decimal ((impl_dateOf a0).1)) ++ [45]) ++ (impl_padded ((impl_dateOf a0).2.1) 2)) ++ [45]) ++ (impl_padded ((impl_dateOf a0).2.2) 2))
theorem impl_DateText_den (a0 : Int)  : Den Tryz.prog 32 [.int .i64 a0] (.str (impl_DateText a0)) := by
  generalize hR : impl_DateText a0 = r
  unfold impl_DateText at hR
  refine den_intro G_ok Tryz.func32 (by kernel_rfl) rfl Tryz.ntmps32 (by rw [Tryz.results32]) (by simp) rfl ?_
  intro c hL hc hk
  clear hL
  simp only [pars, Nat.zero_add]
  refine AWP.seq ?_
  refine AWP.regS G_ok impl_DateText_DD hc (by kernel_rfl) (fun K hK => ?_); simp only [ea, gv, sv, D_impl_Decimal, D_impl_isDay, D_impl_dateOf, D_impl_padded, reduceCtorEq, reduceIte, Nat.reduceBEq, Nat.reduceAdd, Nat.reduceEqDiff, Nat.reduceLT, Nat.reduceLeDiff, Nat.reduceMul, Nat.reduceSub, BEq.rfl, beq_self_eq_true, Int.reduceToNat]
  (refine hK _ ?_)
  clear hK K
  refine AWP.seq ?_
  refine AWP.seq ?_
  refine AWP.regS G_ok impl_DateText_DD hc (by kernel_rfl) (fun K hK => ?_); simp only [ea, gv, sv, D_impl_Decimal, D_impl_isDay, D_impl_dateOf, D_impl_padded, reduceCtorEq, reduceIte, Nat.reduceBEq, Nat.reduceAdd, Nat.reduceEqDiff, Nat.reduceLT, Nat.reduceLeDiff, Nat.reduceMul, Nat.reduceSub, BEq.rfl, beq_self_eq_true, Int.reduceToNat]
  (refine hK _ ?_)
  clear hK K
  refine AWP.cond rfl (fun hb => ?_) (fun hb => ?_)
  · (simp only [hb, cond_true] at hR)
    refine AWP.seq ?_
    refine AWP.regS G_ok impl_DateText_DD hc (by kernel_rfl) (fun K hK => ?_); simp only [ea, gv, sv, D_impl_Decimal, D_impl_isDay, D_impl_dateOf, D_impl_padded, reduceCtorEq, reduceIte, Nat.reduceBEq, Nat.reduceAdd, Nat.reduceEqDiff, Nat.reduceLT, Nat.reduceLeDiff, Nat.reduceMul, Nat.reduceSub, BEq.rfl, beq_self_eq_true, Int.reduceToNat]
    (refine hK _ ?_)
    clear hK K
    refine AWP.ret ?_
    subst hR
    (simp only [en, si, ea, gv, sv, hk, reduceCtorEq, reduceIte, Nat.reduceBEq, Nat.reduceAdd, Nat.reduceEqDiff, Nat.reduceLT, Nat.reduceLeDiff, Nat.reduceMul, Nat.reduceSub, BEq.rfl, beq_self_eq_true, Int.reduceToNat]; done)
  · (simp only [hb, cond_false] at hR)
    refine AWP.skip ?_
    refine AWP.seq ?_
    refine AWP.regS G_ok impl_DateText_DD hc (by kernel_rfl) (fun K hK => ?_); simp only [ea, gv, sv, D_impl_Decimal, D_impl_isDay, D_impl_dateOf, D_impl_padded, reduceCtorEq, reduceIte, Nat.reduceBEq, Nat.reduceAdd, Nat.reduceEqDiff, Nat.reduceLT, Nat.reduceLeDiff, Nat.reduceMul, Nat.reduceSub, BEq.rfl, beq_self_eq_true, Int.reduceToNat]
    (refine ⟨by ((have hb9 : 0 ≤ a0 ∧ a0 ≤ 99999 := (by have hb8 := hb; simp [impl_isDay, impl_within] at hb8; omega); have hr := impl_dateOf_rng a0 hb9.1 hb9.2; have l1 := impl_Decimal_len (impl_dateOf a0).1; have l2 := impl_padded_len (impl_dateOf a0).2.1 (by omega) (by omega); have l3 := impl_padded_len (impl_dateOf a0).2.2 (by omega) (by omega); (try simp only [List.length_append, List.length_cons, List.length_nil]); omega)), hK _ ?_⟩)
    clear hK K
    refine AWP.seq ?_
    refine AWP.regS G_ok impl_DateText_DD hc (by kernel_rfl) (fun K hK => ?_); simp only [ea, gv, sv, D_impl_Decimal, D_impl_isDay, D_impl_dateOf, D_impl_padded, reduceCtorEq, reduceIte, Nat.reduceBEq, Nat.reduceAdd, Nat.reduceEqDiff, Nat.reduceLT, Nat.reduceLeDiff, Nat.reduceMul, Nat.reduceSub, BEq.rfl, beq_self_eq_true, Int.reduceToNat]
    (refine ⟨by ((have hb9 : 0 ≤ a0 ∧ a0 ≤ 99999 := (by have hb8 := hb; simp [impl_isDay, impl_within] at hb8; omega); have hr := impl_dateOf_rng a0 hb9.1 hb9.2; have l1 := impl_Decimal_len (impl_dateOf a0).1; have l2 := impl_padded_len (impl_dateOf a0).2.1 (by omega) (by omega); have l3 := impl_padded_len (impl_dateOf a0).2.2 (by omega) (by omega); (try simp only [List.length_append, List.length_cons, List.length_nil]); omega)), hK _ ?_⟩)
    clear hK K
    refine AWP.ret ?_
    subst hR
    (simp only [en, si, ea, gv, sv, hk, reduceCtorEq, reduceIte, Nat.reduceBEq, Nat.reduceAdd, Nat.reduceEqDiff, Nat.reduceLT, Nat.reduceLeDiff, Nat.reduceMul, Nat.reduceSub, BEq.rfl, beq_self_eq_true, Int.reduceToNat]; done)
def D_impl_DateText : DF
  | [x0] => some (.str (impl_DateText (rdI x0)), false, [wI .i64 x0])
  | _ => none
theorem D_impl_DateText_ok : OkD Tryz.prog 32 D_impl_DateText := by
  intro xs r z ob h ho
  unfold D_impl_DateText at h
  split at h
  · simp only [Option.some.injEq, Prod.mk.injEq] at h
    obtain ⟨rfl, rfl, rfl⟩ := h
    obtain ⟨h0, _⟩ := ho
    exact Den.sim (impl_DateText_den _ ) (simOL_cons (wI_sim h0).1 <| trivial) (noIdL_cons (wI_sim h0).2 <| rfl) rfl
  · cases h
end Go.Ab

namespace Go.Ab
open Go Go.Proofs
def spec_l03Digits_b1 (a0 : (List UInt8)) (i1 : Nat) (s1 : Int) : Except ((Int × Bool)) (Int) :=
  (bif (decide (((a0.getD i1 0).toNat : Int) < 48) || decide (57 < ((a0.getD i1 0).toNat : Int))) then .error (0, false) else .ok (IntKind.wrap .i64 ((IntKind.wrap .i64 (10 * s1)) + (IntKind.wrap .i64 (IntKind.wrap .u8 (((a0.getD i1 0).toNat : Int) - 48))))))
def spec_l03Digits (a0 : (List UInt8)) : (Int × Bool) :=
  (match loopR (spec_l03Digits_b1 a0) (a0.length - 0) 0 0 with | .error e => e | .ok s1 => (s1, true))
end Go.Ab

namespace Go.Ab
open Go Go.Proofs
def spec_l03Year (a0 : Int) : Bool :=
  (spec_l00In a0 2000 2273)
end Go.Ab

namespace Go.Ab
open Go Go.Proofs
def spec_l03Leap (a0 : Int) : Bool :=
  ((((a0.tmod 4) == 0) && ((a0.tmod 100) != 0)) || ((a0.tmod 400) == 0))
end Go.Ab

namespace Go.Ab
open Go Go.Proofs
def spec_l03Days (a0 : Int) (a1 : Int) : Int :=
  (bif (a1 == 2) then (bif (spec_l03Leap a0) then 29 else 28) else (bif (a1 == 4) then 30 else (bif (a1 == 6) then 30 else (bif (a1 == 9) then 30 else (bif (a1 == 11) then 30 else 31)))))
end Go.Ab

namespace Go.Ab
open Go Go.Proofs
def spec_l03Number_b1 (a0 : Int) (a1 : Int) (a2 : Int) (i1 : Nat) (s1 : Int) : Except (Int) (Int) :=
  (bif (spec_l03Leap (i1 : Int)) then .ok (IntKind.wrap .i64 ((IntKind.wrap .i64 (s1 + 365)) + 1)) else .ok (IntKind.wrap .i64 (s1 + 365)))
def spec_l03Number_b2 (a0 : Int) (a1 : Int) (a2 : Int) (s1 : Int) (i2 : Nat) (s2 : Int) : Except (Int) (Int) :=
  .ok (IntKind.wrap .i64 (s2 + (spec_l03Days a0 (i2 : Int))))
def spec_l03Number (a0 : Int) (a1 : Int) (a2 : Int) : Int :=
  (match loopR (spec_l03Number_b1 a0 a1 a2) ((a0).toNat - 2000) 2000 (IntKind.wrap .i64 (a2 - 1)) with | .error e => e | .ok s1 => (match loopR (spec_l03Number_b2 a0 a1 a2 s1) ((a1).toNat - 1) 1 s1 with | .error e => e | .ok s2 => s2))
end Go.Ab

namespace Go.Ab
open Go Go.Proofs
def spec_l03Find (a0 : Int) (a1 : Int) (a2 : Int) : (Int × Bool) :=
  (bif (((!(spec_l03Year a0)) || (!(spec_l00In a1 1 12))) || (!(spec_l00In a2 1 (spec_l03Days a0 a1)))) then (0, false) else ((spec_l03Number a0 a1 a2), decide ((spec_l03Number a0 a1 a2) ≤ 99999)))
end Go.Ab

namespace Go.Ab
open Go Go.Proofs
def spec_l03Read (a0 : (List UInt8)) : (Int × Bool) :=
  (bif ((((a0.length : Int) != 10) || (((a0.getD 4 0).toNat : Int) != 45)) || (((a0.getD 7 0).toNat : Int) != 45)) then (0, false) else (bif (((!((spec_l03Digits (a0.take 4)).2)) || (!((spec_l03Digits ((a0.take 7).drop 5)).2))) || (!((spec_l03Digits ((a0.take a0.length).drop 8)).2))) then (0, false) else (bif (!((spec_l03Find ((spec_l03Digits (a0.take 4)).1) ((spec_l03Digits ((a0.take 7).drop 5)).1) ((spec_l03Digits ((a0.take a0.length).drop 8)).1)).2)) then (0, false) else ((spec_l03Find ((spec_l03Digits (a0.take 4)).1) ((spec_l03Digits ((a0.take 7).drop 5)).1) ((spec_l03Digits ((a0.take a0.length).drop 8)).1)).1, true))))
end Go.Ab

namespace Go.Ab
open Go Go.Proofs
theorem split_den {f : FuncId} {T : TypeId} (hok : FnOk Tryz.prog f) (a0 a1 : List UInt8) (hp0 : a0.length ≤ 1048576) (hp1 : a1.length = 1)
    (hS : ∀ (s sep : ByteArray) (m : Int) (w : World), s.size < 4294967281 → w.cell? ⟨0, 0, none⟩ = some (.int .i64 m) → 1 ≤ sep.size → Calls Tryz.prog f #[.string s, .string sep] w fun e w' =>
      e = .returned (.slice (some ⟨w.heap.size, 0, none⟩) (Go.Lib.countB s sep + 1) (Go.Lib.countB s sep + 1)) ∧ w' = w.alloc (.cells ((Go.Lib.splitB sep 0 (Go.Lib.countB s sep) s).map Value.string).toArray T)) :
    Den Tryz.prog f [.str a0, .str a1] (ownL T 1 (fun s : List UInt8 => [.str s]) (splitC (a1.getD 0 0) a0)) := by
  obtain ⟨c, rfl⟩ : ∃ c, a1 = [c] := List.length_eq_one_iff.1 hp1
  have hl : Go.Lib.splitB ⟨#[c]⟩ 0 (Go.Lib.countB ⟨a0.toArray⟩ ⟨#[c]⟩) ⟨a0.toArray⟩ = (splitC c a0).map fun x => (⟨x.toArray⟩ : ByteArray) := by
    have h1 := Go.Lib.splitB_data ⟨#[c]⟩ 0 (Go.Lib.countB ⟨a0.toArray⟩ ⟨#[c]⟩) ⟨a0.toArray⟩
    rw [show Go.Lib.splitK (⟨#[c]⟩ : ByteArray).data.toList 0 (Go.Lib.countB ⟨a0.toArray⟩ ⟨#[c]⟩) (⟨a0.toArray⟩ : ByteArray).data.toList = splitC c a0 from split_eq c _ a0 (Nat.le_refl _)] at h1
    rw [← h1, List.map_map]
    refine (List.map_id'' (fun x => ?_) _).symm
    rfl
  have hcl : (splitC c a0).length = Go.Lib.countB ⟨a0.toArray⟩ ⟨#[c]⟩ + 1 := by
    have h2 := Go.Lib.splitB_all ⟨#[c]⟩ (by show 1 ≤ 1; omega) 0 (Go.Lib.countB ⟨a0.toArray⟩ ⟨#[c]⟩) ⟨a0.toArray⟩ rfl
    rw [hl] at h2
    simpa using h2
  obtain ⟨l1, l2⟩ := splitC_len c a0
  have hnth : ∀ i, i < (splitC c a0).length → ((splitC c a0).getD i default).length ≤ maxLen := by
    intro i hi
    have : (splitC c a0).getD i default ∈ splitC c a0 := by
      rw [List.getD_eq_getElem?_getD, List.getElem?_eq_getElem hi]
      simp
    have := l2 _ this
    unfold maxLen
    omega
  refine Den.fresh (T := T) (e := 1) (enc := fun s : List UInt8 => [.str s]) (l := splitC c a0) hok (by simp [NoOwnL, NoOwn]) (fun i => [Value.string ⟨((splitC c a0).getD i default).toArray⟩]) (fun w M i hi => ⟨?_, rfl, by simp [Value.oneCell']⟩) ?_
  · simp only [RepL]
    exact ⟨_, [], [], [], rfl, rfl, rep_str _ (hnth i hi), rfl, rfl⟩
  · intro w M vs hI hr
    simp only [RepL] at hr
    obtain ⟨u0, us0, f0, g0, rfl, h0e, h0, u1, us1, f1, g1, rfl, h1e, h1, rfl, _⟩ := hr
    have e0 := h0.val_str
    have e1 := h1.val_str
    subst e0 e1
    obtain ⟨m, hm⟩ := hI.1.2
    refine (hS ⟨a0.toArray⟩ ⟨#[c]⟩ m w (by show a0.length < _; omega) hm (by show 1 ≤ 1; omega)).mono ?_
    rintro e w' ⟨rfl, rfl⟩
    refine ⟨w.heap.size, (splitC c a0).length, ((splitC c a0).map fun x => Value.string ⟨x.toArray⟩).toArray, by rw [← hcl], ?_⟩
    have hmap : (Go.Lib.splitB ⟨#[c]⟩ 0 (Go.Lib.countB ⟨a0.toArray⟩ ⟨#[c]⟩) ⟨a0.toArray⟩).map Value.string = (splitC c a0).map fun x => Value.string ⟨x.toArray⟩ := by
      rw [hl, List.map_map]; rfl
    rw [hmap]
    have hfl := fresh_alloc w T ((splitC c a0).map fun x => Value.string ⟨x.toArray⟩) (by rw [List.length_map]; unfold maxLen; omega)
    rw [List.length_map] at hfl
    have hus : ((List.range (splitC c a0).length).flatMap fun i => [((splitC c a0).map fun x => Value.string ⟨x.toArray⟩).getD i default]) = (List.range (splitC c a0).length).flatMap fun i => [Value.string ⟨((splitC c a0).getD i default).toArray⟩] := by
      rw [List.flatMap_def, List.flatMap_def]
      congr 1
      apply List.map_congr_left
      intro i hi
      have hi := List.mem_range.1 hi
      simp [List.getD_eq_getElem?_getD, List.getElem?_map, List.getElem?_eq_getElem hi]
    rw [hus] at hfl
    exact hfl
end Go.Ab

namespace Go.Ab
open Go Go.Proofs
theorem strings_Split_DD : DOk Tryz.prog (DD []) := DD_nil _
def strings_Split (a0 : (List UInt8)) (a1 : (List UInt8)) : (List (List UInt8)) := splitC (a1.getD 0 0) a0
theorem strings_Split_den (a0 : (List UInt8)) (a1 : (List UInt8)) (hp0 : a0.length ≤ 1048576) (hp1 : a1.length = 1) : Den Tryz.prog 62 [.str a0, .str a1] (ownL 9 1 eS (strings_Split a0 a1)) := by
  exact split_den ⟨_, Tryz.func62, rfl, rfl⟩ a0 a1 hp0 hp1 (fun s sep m w => Any.strings_Split Tryz.lays146 (by kernel_rfl) s sep m w)
def D_strings_Split : DF
  | [x0, x1] => some (ownL 9 1 eS (strings_Split (rdS x0) (rdS x1)), false, [wS x0, wS x1, (rdS x0).length ≤ 1048576, (rdS x1).length = 1])
  | _ => none
def Dz_strings_Split : DF
  | [x0, x1] => some (ownL 9 1 eS (strings_Split (rdS x0) (rdS x1)), true, [wS x0, wS x1, (rdS x0).length ≤ 1048576, (rdS x1).length = 1])
  | _ => none
theorem D_strings_Split_ok : OkD Tryz.prog 62 D_strings_Split := by
  intro xs r z ob h ho
  unfold D_strings_Split at h
  split at h
  · simp only [Option.some.injEq, Prod.mk.injEq] at h
    obtain ⟨rfl, rfl, rfl⟩ := h
    obtain ⟨h0, h1, hp0, hp1, _⟩ := ho
    exact Den.sim (strings_Split_den _ _ hp0 hp1) (simOL_cons (wS_sim h0).1 <| simOL_cons (wS_sim h1).1 <| trivial) (noIdL_cons (wS_sim h0).2 <| noIdL_cons (wS_sim h1).2 <| rfl) rfl
  · cases h
theorem Dz_strings_Split_ok : OkD Tryz.prog 62 Dz_strings_Split := by
  intro xs r z ob h ho
  unfold Dz_strings_Split at h
  split at h
  · simp only [Option.some.injEq, Prod.mk.injEq] at h
    obtain ⟨rfl, rfl, rfl⟩ := h
    obtain ⟨h0, h1, hp0, hp1, _⟩ := ho
    exact Den.sim (strings_Split_den _ _ hp0 hp1) (simOL_cons (wS_sim h0).1 <| simOL_cons (wS_sim h1).1 <| trivial) (noIdL_cons (wS_sim h0).2 <| noIdL_cons (wS_sim h1).2 <| rfl) rfl
  · cases h
end Go.Ab

namespace Go.Ab
open Go Go.Proofs
theorem impl_digitsOf_DD : DOk Tryz.prog (DD [(68, dP D_impl_within)]) := DD_cons D_impl_within_ok.e <| DD_nil _
def impl_digitsOf_b1 (a0 : (List UInt8)) (i1 : Nat) (s1 : Int) : Except ((Int × Bool)) (Int) :=
  (bif (decide (((a0.getD i1 0).toNat : Int) < 48) || decide (57 < ((a0.getD i1 0).toNat : Int))) then .error (0, false) else .ok (IntKind.wrap .i64 ((IntKind.wrap .i64 (10 * s1)) + (IntKind.wrap .i64 (IntKind.wrap .u8 (((a0.getD i1 0).toNat : Int) - 48))))))
def impl_digitsOf (a0 : (List UInt8)) : (Int × Bool) :=
  (match loopR (impl_digitsOf_b1 a0) (a0.length - 0) 0 0 with | .error e => e | .ok s1 => (s1, (impl_within (a0.length : Int) 1 18)))
theorem impl_digitsOf_den (a0 : (List UInt8))  : Den Tryz.prog 63 [.str a0] (.tup [.int .i64 ((impl_digitsOf a0).1), .bool ((impl_digitsOf a0).2)]) := by
  generalize hR : impl_digitsOf a0 = r
  unfold impl_digitsOf at hR
  refine den_intro G_ok Tryz.func63 (by kernel_rfl) rfl Tryz.ntmps63 (by rw [Tryz.results63]) (by simp) rfl ?_
  intro c hL hc hk
  obtain ⟨hL0, _⟩ := hL
  have hw0 : a0.length < 9223372036854775808 := Nat.lt_succ_of_le hL0
  clear hL0
  simp only [pars, Nat.zero_add]
  refine AWP.seq ?_
  refine AWP.regS G_ok impl_digitsOf_DD hc (by kernel_rfl) (fun K hK => ?_); simp only [ea, gv, sv, D_impl_within, reduceCtorEq, reduceIte, Nat.reduceBEq, Nat.reduceAdd, Nat.reduceEqDiff, Nat.reduceLT, Nat.reduceLeDiff, Nat.reduceMul, Nat.reduceSub, BEq.rfl, beq_self_eq_true, Int.reduceToNat]
  (refine hK _ ?_)
  clear hK K
  refine AWP.seq ?_
  refine AWP.regS G_ok impl_digitsOf_DD hc (by kernel_rfl) (fun K hK => ?_); simp only [ea, gv, sv, D_impl_within, reduceCtorEq, reduceIte, Nat.reduceBEq, Nat.reduceAdd, Nat.reduceEqDiff, Nat.reduceLT, Nat.reduceLeDiff, Nat.reduceMul, Nat.reduceSub, BEq.rfl, beq_self_eq_true, Int.reduceToNat]
  (refine hK _ ?_)
  clear hK K
  refine AWP.seq ?_
  refine AWP.seq ?_
  refine AWP.regS G_ok impl_digitsOf_DD hc (by kernel_rfl) (fun K hK => ?_); simp only [ea, gv, sv, D_impl_within, reduceCtorEq, reduceIte, Nat.reduceBEq, Nat.reduceAdd, Nat.reduceEqDiff, Nat.reduceLT, Nat.reduceLeDiff, Nat.reduceMul, Nat.reduceSub, BEq.rfl, beq_self_eq_true, Int.reduceToNat]
  (refine hK _ ?_)
  clear hK K
  refine AWP.block ?_
  generalize hz1 : loopR (impl_digitsOf_b1 a0) (a0.length - 0) 0 0 = z1 at hR
  refine AWP.range (impl_digitsOf_b1 a0) (fun i1 s1 => ⟨[(0, .str a0), (4, .int .i64 s1), (5, .int .i64 (i1 : Int))], []⟩) (fun i1 s1 => True) (a0.length) 0 0 [] hz1 (by (omega)) (by (trivial)) (by (simp only [si, ea, gv, sv, hk, reduceCtorEq, reduceIte, Nat.reduceBEq, Nat.reduceAdd, Nat.reduceEqDiff, Nat.reduceLT, Nat.reduceLeDiff, Nat.reduceMul, Nat.reduceSub, BEq.rfl, beq_self_eq_true, Int.reduceToNat]; trivial)) ?_
  clear hz1
  intro i1 s1 hi1 hW1 hz1
  refine AWP.seq ?_
  refine AWP.seq ?_
  refine AWP.regS G_ok impl_digitsOf_DD hc (by kernel_rfl) (fun K hK => ?_); simp only [ea, gv, sv, D_impl_within, reduceCtorEq, reduceIte, Nat.reduceBEq, Nat.reduceAdd, Nat.reduceEqDiff, Nat.reduceLT, Nat.reduceLeDiff, Nat.reduceMul, Nat.reduceSub, BEq.rfl, beq_self_eq_true, Int.reduceToNat]
  (refine hK _ ?_)
  clear hK K
  refine AWP.cond rfl (fun hb => ?_) (fun hb => ?_)
  · have hlt1 : i1 < a0.length := by ((simp only [ob, ln, bdv, impl_within, sv] at *; omega))
    rw [loopR_lt hlt1] at hz1; simp only [impl_digitsOf_b1] at hz1
    refine AWP.skip ?_
    refine AWP.seq ?_
    refine AWP.block ?_
    refine AWP.seq ?_
    refine AWP.seq ?_
    refine AWP.regS G_ok impl_digitsOf_DD hc (by kernel_rfl) (fun K hK => ?_); simp only [ea, gv, sv, D_impl_within, reduceCtorEq, reduceIte, Nat.reduceBEq, Nat.reduceAdd, Nat.reduceEqDiff, Nat.reduceLT, Nat.reduceLeDiff, Nat.reduceMul, Nat.reduceSub, BEq.rfl, beq_self_eq_true, Int.reduceToNat]
    (refine ⟨by (omega), hK _ ?_⟩)
    clear hK K
    refine AWP.cond rfl (fun hb => ?_) (fun hb => ?_)
    · (simp only [hb, cond_true] at hz1)
      refine AWP.seq ?_
      refine AWP.regS G_ok impl_digitsOf_DD hc (by kernel_rfl) (fun K hK => ?_); simp only [ea, gv, sv, D_impl_within, reduceCtorEq, reduceIte, Nat.reduceBEq, Nat.reduceAdd, Nat.reduceEqDiff, Nat.reduceLT, Nat.reduceLeDiff, Nat.reduceMul, Nat.reduceSub, BEq.rfl, beq_self_eq_true, Int.reduceToNat]
      (refine hK _ ?_)
      clear hK K
      refine AWP.ret ?_
      subst hz1
      dsimp only at hR
      subst hR
      (simp only [en, si, ea, gv, sv, hk, reduceCtorEq, reduceIte, Nat.reduceBEq, Nat.reduceAdd, Nat.reduceEqDiff, Nat.reduceLT, Nat.reduceLeDiff, Nat.reduceMul, Nat.reduceSub, BEq.rfl, beq_self_eq_true, Int.reduceToNat]; done)
    · (simp only [hb, cond_false] at hz1)
      refine AWP.skip ?_
      refine AWP.regS G_ok impl_digitsOf_DD hc (by kernel_rfl) (fun K hK => ?_); simp only [ea, gv, sv, D_impl_within, reduceCtorEq, reduceIte, Nat.reduceBEq, Nat.reduceAdd, Nat.reduceEqDiff, Nat.reduceLT, Nat.reduceLeDiff, Nat.reduceMul, Nat.reduceSub, BEq.rfl, beq_self_eq_true, Int.reduceToNat]
      (refine ⟨by (omega), hK _ ?_⟩)
      clear hK K
      refine AWP.regS G_ok impl_digitsOf_DD hc (by kernel_rfl) (fun K hK => ?_); simp only [ea, gv, sv, D_impl_within, reduceCtorEq, reduceIte, Nat.reduceBEq, Nat.reduceAdd, Nat.reduceEqDiff, Nat.reduceLT, Nat.reduceLeDiff, Nat.reduceMul, Nat.reduceSub, BEq.rfl, beq_self_eq_true, Int.reduceToNat]
      (refine hK _ ?_)
      clear hK K
      exact ⟨_, [], hlt1, by (trivial), hz1, by (simp only [si, ea, gv, sv, hk, reduceCtorEq, reduceIte, Nat.reduceBEq, Nat.reduceAdd, Nat.reduceEqDiff, Nat.reduceLT, Nat.reduceLeDiff, Nat.reduceMul, Nat.reduceSub, BEq.rfl, beq_self_eq_true, Int.reduceToNat]; (and_intros <;> first | trivial | (rw [IntKind.wrap_i64]; omega)))⟩
  · obtain rfl : i1 = a0.length := by ((simp only [ob, ln, bdv, impl_within, sv] at *; omega))
    rw [loopR_ge (Nat.le_refl _)] at hz1; subst hz1; dsimp only at hR
    refine AWP.exit ?_; refine exitTo_here ?_
    refine AWP.seq ?_
    refine AWP.regS G_ok impl_digitsOf_DD hc (by kernel_rfl) (fun K hK => ?_); simp only [ea, gv, sv, D_impl_within, reduceCtorEq, reduceIte, Nat.reduceBEq, Nat.reduceAdd, Nat.reduceEqDiff, Nat.reduceLT, Nat.reduceLeDiff, Nat.reduceMul, Nat.reduceSub, BEq.rfl, beq_self_eq_true, Int.reduceToNat]
    (refine hK _ ?_)
    clear hK K
    refine AWP.ret ?_
    subst hR
    (simp only [en, si, ea, gv, sv, hk, reduceCtorEq, reduceIte, Nat.reduceBEq, Nat.reduceAdd, Nat.reduceEqDiff, Nat.reduceLT, Nat.reduceLeDiff, Nat.reduceMul, Nat.reduceSub, BEq.rfl, beq_self_eq_true, Int.reduceToNat]; done)
def D_impl_digitsOf : DF
  | [x0] => some (.tup [.int .i64 ((impl_digitsOf (rdS x0)).1), .bool ((impl_digitsOf (rdS x0)).2)], false, [wS x0])
  | _ => none
theorem D_impl_digitsOf_ok : OkD Tryz.prog 63 D_impl_digitsOf := by
  intro xs r z ob h ho
  unfold D_impl_digitsOf at h
  split at h
  · simp only [Option.some.injEq, Prod.mk.injEq] at h
    obtain ⟨rfl, rfl, rfl⟩ := h
    obtain ⟨h0, _⟩ := ho
    exact Den.sim (impl_digitsOf_den _ ) (simOL_cons (wS_sim h0).1 <| trivial) (noIdL_cons (wS_sim h0).2 <| rfl) rfl
  · cases h
end Go.Ab

namespace Go.Ab
open Go Go.Proofs
theorem impl_isMonth_DD : DOk Tryz.prog (DD [(68, dP D_impl_within)]) := DD_cons D_impl_within_ok.e <| DD_nil _
def impl_isMonth (a0 : Int) : Bool :=
  (impl_within a0 1 12)
theorem impl_isMonth_den (a0 : Int)  : Den Tryz.prog 107 [.int .i64 a0] (.bool (impl_isMonth a0)) := by
  generalize hR : impl_isMonth a0 = r
  unfold impl_isMonth at hR
  refine den_intro G_ok Tryz.func107 (by kernel_rfl) rfl Tryz.ntmps107 (by rw [Tryz.results107]) (by simp) rfl ?_
  intro c hL hc hk
  clear hL
  simp only [pars, Nat.zero_add]
  refine AWP.seq ?_
  refine AWP.regS G_ok impl_isMonth_DD hc (by kernel_rfl) (fun K hK => ?_); simp only [ea, gv, sv, D_impl_within, reduceCtorEq, reduceIte, Nat.reduceBEq, Nat.reduceAdd, Nat.reduceEqDiff, Nat.reduceLT, Nat.reduceLeDiff, Nat.reduceMul, Nat.reduceSub, BEq.rfl, beq_self_eq_true, Int.reduceToNat]
  (refine hK _ ?_)
  clear hK K
  refine AWP.seq ?_
  refine AWP.regS G_ok impl_isMonth_DD hc (by kernel_rfl) (fun K hK => ?_); simp only [ea, gv, sv, D_impl_within, reduceCtorEq, reduceIte, Nat.reduceBEq, Nat.reduceAdd, Nat.reduceEqDiff, Nat.reduceLT, Nat.reduceLeDiff, Nat.reduceMul, Nat.reduceSub, BEq.rfl, beq_self_eq_true, Int.reduceToNat]
  (refine hK _ ?_)
  clear hK K
  refine AWP.ret ?_
  subst hR
  (simp only [en, si, ea, gv, sv, hk, reduceCtorEq, reduceIte, Nat.reduceBEq, Nat.reduceAdd, Nat.reduceEqDiff, Nat.reduceLT, Nat.reduceLeDiff, Nat.reduceMul, Nat.reduceSub, BEq.rfl, beq_self_eq_true, Int.reduceToNat]; done)
def D_impl_isMonth : DF
  | [x0] => some (.bool (impl_isMonth (rdI x0)), false, [wI .i64 x0])
  | _ => none
theorem D_impl_isMonth_ok : OkD Tryz.prog 107 D_impl_isMonth := by
  intro xs r z ob h ho
  unfold D_impl_isMonth at h
  split at h
  · simp only [Option.some.injEq, Prod.mk.injEq] at h
    obtain ⟨rfl, rfl, rfl⟩ := h
    obtain ⟨h0, _⟩ := ho
    exact Den.sim (impl_isMonth_den _ ) (simOL_cons (wI_sim h0).1 <| trivial) (noIdL_cons (wI_sim h0).2 <| rfl) rfl
  · cases h
end Go.Ab

namespace Go.Ab
open Go Go.Proofs
theorem impl_firstDay_DD : DOk Tryz.prog (DD [(114, dP D_impl_yearDays)]) := DD_cons D_impl_yearDays_ok.e <| DD_nil _
def impl_firstDay_b1 (a0 : Int) (i1 : Nat) (s1 : Int) : Except (Int) (Int) :=
  .ok (IntKind.wrap .i64 (s1 + (impl_yearDays (i1 : Int))))
def impl_firstDay (a0 : Int) : Int :=
  (match loopR (impl_firstDay_b1 a0) ((a0).toNat - 2000) 2000 0 with | .error e => e | .ok s1 => s1)
set_option maxHeartbeats 400000 in
set_option maxRecDepth 20000 in
theorem impl_firstDay_den (a0 : Int) (hp0 : 2000 ≤ a0) (hp1 : a0 ≤ 2273) : Den Tryz.prog 152 [.int .i64 a0] (.int .i64 (impl_firstDay a0)) := by
  generalize hR : impl_firstDay a0 = r
  unfold impl_firstDay at hR
  refine den_intro G_ok Tryz.func152 (by kernel_rfl) rfl Tryz.ntmps152 (by rw [Tryz.results152]) (by simp) rfl ?_
  intro c hL hc hk
  clear hL
  simp only [pars, Nat.zero_add]
  refine AWP.seq ?_
  refine AWP.regS G_ok impl_firstDay_DD hc (by kernel_rfl) (fun K hK => ?_); simp only [ea, gv, sv, D_impl_yearDays, reduceCtorEq, reduceIte, Nat.reduceBEq, Nat.reduceAdd, Nat.reduceEqDiff, Nat.reduceLT, Nat.reduceLeDiff, Nat.reduceMul, Nat.reduceSub, BEq.rfl, beq_self_eq_true, Int.reduceToNat]
  (refine hK _ ?_)
  clear hK K
  refine AWP.seq ?_
  refine AWP.regS G_ok impl_firstDay_DD hc (by kernel_rfl) (fun K hK => ?_); simp only [ea, gv, sv, D_impl_yearDays, reduceCtorEq, reduceIte, Nat.reduceBEq, Nat.reduceAdd, Nat.reduceEqDiff, Nat.reduceLT, Nat.reduceLeDiff, Nat.reduceMul, Nat.reduceSub, BEq.rfl, beq_self_eq_true, Int.reduceToNat]
  (refine hK _ ?_)
  clear hK K
  refine AWP.seq ?_
  refine AWP.seq ?_
  refine AWP.regS G_ok impl_firstDay_DD hc (by kernel_rfl) (fun K hK => ?_); simp only [ea, gv, sv, D_impl_yearDays, reduceCtorEq, reduceIte, Nat.reduceBEq, Nat.reduceAdd, Nat.reduceEqDiff, Nat.reduceLT, Nat.reduceLeDiff, Nat.reduceMul, Nat.reduceSub, BEq.rfl, beq_self_eq_true, Int.reduceToNat]
  (refine hK _ ?_)
  clear hK K
  refine AWP.block ?_
  generalize hz1 : loopR (impl_firstDay_b1 a0) ((a0).toNat - 2000) 2000 0 = z1 at hR
  refine AWP.range (impl_firstDay_b1 a0) (fun i1 s1 => ⟨[(0, .int .i64 a0), (3, .int .i64 s1), (4, .int .i64 (i1 : Int))], []⟩) (fun i1 s1 => 2000 ≤ i1 ∧ 0 ≤ s1 ∧ s1 ≤ 366 * ((i1 : Int) - 2000) ∧ 2000 ≤ i1) ((a0).toNat) 2000 0 [] hz1 (by (omega)) (by (trivial)) (by (simp only [si, ea, gv, sv, hk, reduceCtorEq, reduceIte, Nat.reduceBEq, Nat.reduceAdd, Nat.reduceEqDiff, Nat.reduceLT, Nat.reduceLeDiff, Nat.reduceMul, Nat.reduceSub, BEq.rfl, beq_self_eq_true, Int.reduceToNat]; trivial)) ?_
  clear hz1
  intro i1 s1 hi1 hW1 hz1
  refine AWP.seq ?_
  refine AWP.seq ?_
  refine AWP.regS G_ok impl_firstDay_DD hc (by kernel_rfl) (fun K hK => ?_); simp only [ea, gv, sv, D_impl_yearDays, reduceCtorEq, reduceIte, Nat.reduceBEq, Nat.reduceAdd, Nat.reduceEqDiff, Nat.reduceLT, Nat.reduceLeDiff, Nat.reduceMul, Nat.reduceSub, BEq.rfl, beq_self_eq_true, Int.reduceToNat]
  (refine hK _ ?_)
  clear hK K
  refine AWP.cond rfl (fun hb => ?_) (fun hb => ?_)
  · have hlt1 : i1 < (a0).toNat := by ((simp only [ob, ln, bdv, sv] at *; omega))
    rw [loopR_lt hlt1] at hz1; simp only [impl_firstDay_b1] at hz1
    refine AWP.skip ?_
    refine AWP.seq ?_
    refine AWP.block ?_
    refine AWP.regS G_ok impl_firstDay_DD hc (by kernel_rfl) (fun K hK => ?_); simp only [ea, gv, sv, D_impl_yearDays, reduceCtorEq, reduceIte, Nat.reduceBEq, Nat.reduceAdd, Nat.reduceEqDiff, Nat.reduceLT, Nat.reduceLeDiff, Nat.reduceMul, Nat.reduceSub, BEq.rfl, beq_self_eq_true, Int.reduceToNat]
    (refine hK _ ?_)
    clear hK K
    refine AWP.regS G_ok impl_firstDay_DD hc (by kernel_rfl) (fun K hK => ?_); simp only [ea, gv, sv, D_impl_yearDays, reduceCtorEq, reduceIte, Nat.reduceBEq, Nat.reduceAdd, Nat.reduceEqDiff, Nat.reduceLT, Nat.reduceLeDiff, Nat.reduceMul, Nat.reduceSub, BEq.rfl, beq_self_eq_true, Int.reduceToNat]
    (refine hK _ ?_)
    clear hK K
    exact ⟨_, [], hlt1, by (have h9 := impl_yearDays_eq (i1 : Int); simp only [ob, ln] at *; omega), hz1, by (simp only [si, ea, gv, sv, hk, reduceCtorEq, reduceIte, Nat.reduceBEq, Nat.reduceAdd, Nat.reduceEqDiff, Nat.reduceLT, Nat.reduceLeDiff, Nat.reduceMul, Nat.reduceSub, BEq.rfl, beq_self_eq_true, Int.reduceToNat]; (and_intros <;> first | trivial | (rw [IntKind.wrap_i64]; omega)))⟩
  · obtain rfl : i1 = (a0).toNat := by ((simp only [ob, ln, bdv, sv] at *; omega))
    rw [loopR_ge (Nat.le_refl _)] at hz1; subst hz1; dsimp only at hR
    refine AWP.exit ?_; refine exitTo_here ?_
    refine AWP.seq ?_
    refine AWP.regS G_ok impl_firstDay_DD hc (by kernel_rfl) (fun K hK => ?_); simp only [ea, gv, sv, D_impl_yearDays, reduceCtorEq, reduceIte, Nat.reduceBEq, Nat.reduceAdd, Nat.reduceEqDiff, Nat.reduceLT, Nat.reduceLeDiff, Nat.reduceMul, Nat.reduceSub, BEq.rfl, beq_self_eq_true, Int.reduceToNat]
    (refine hK _ ?_)
    clear hK K
    refine AWP.ret ?_
    subst hR
    (simp only [en, si, ea, gv, sv, hk, reduceCtorEq, reduceIte, Nat.reduceBEq, Nat.reduceAdd, Nat.reduceEqDiff, Nat.reduceLT, Nat.reduceLeDiff, Nat.reduceMul, Nat.reduceSub, BEq.rfl, beq_self_eq_true, Int.reduceToNat]; done)
def D_impl_firstDay : DF
  | [x0] => some (.int .i64 (impl_firstDay (rdI x0)), false, [wI .i64 x0, 2000 ≤ (rdI x0), (rdI x0) ≤ 2273])
  | _ => none
theorem D_impl_firstDay_ok : OkD Tryz.prog 152 D_impl_firstDay := by
  intro xs r z ob h ho
  unfold D_impl_firstDay at h
  split at h
  · simp only [Option.some.injEq, Prod.mk.injEq] at h
    obtain ⟨rfl, rfl, rfl⟩ := h
    obtain ⟨h0, hp0, hp1, _⟩ := ho
    exact Den.sim (impl_firstDay_den _ hp0 hp1) (simOL_cons (wI_sim h0).1 <| trivial) (noIdL_cons (wI_sim h0).2 <| rfl) rfl
  · cases h
end Go.Ab

namespace Go.Ab
open Go Go.Proofs
theorem loopR_allF {ρ σ : Type} {b : Nat → σ → Except ρ σ} {I : Nat → σ → Prop} (hi : ∀ i s, I i s → ∃ t, b i s = .ok t ∧ I (i + 1) t) :
    ∀ (k i : Nat) (s : σ), I i s → ∃ t, loopR b k i s = .ok t ∧ I (i + k) t
  | 0, i, s, h => ⟨s, rfl, h⟩
  | k + 1, i, s, h => by
    obtain ⟨t, h1, h2⟩ := hi i s h
    obtain ⟨u, h3, h4⟩ := loopR_allF hi k (i + 1) t h2
    refine ⟨u, ?_, by rw [show i + (k + 1) = i + 1 + k by omega]; exact h4⟩
    simp only [loopR, h1, h3]
theorem impl_firstDay_rng (y : Int) (h1 : 2000 ≤ y) (h2 : y ≤ 2273) : 0 ≤ impl_firstDay y ∧ impl_firstDay y ≤ 366 * 273 := by
  have hL : ∀ k : Nat, k ≤ 273 → ∃ t, loopR (impl_firstDay_b1 y) k 2000 0 = .ok t ∧ 0 ≤ t ∧ t ≤ 366 * (k : Int) := by
    intro k hk
    obtain ⟨t, e, _, h4⟩ := loopR_allF (b := impl_firstDay_b1 y) (I := fun i t => 2000 ≤ i ∧ (i ≤ 2273 → 0 ≤ t ∧ t ≤ 366 * ((i : Int) - 2000))) (fun i s hI => by
      obtain ⟨hI1, hI2⟩ := hI
      refine ⟨_, rfl, by omega, fun hle => ?_⟩
      have h3 := hI2 (by omega)
      have h9 := impl_yearDays_eq (i : Int)
      rw [IntKind.wrap_i64]
      omega) k 2000 0 ⟨by omega, fun _ => by omega⟩
    have := h4 (by omega)
    exact ⟨t, e, this.1, by omega⟩
  obtain ⟨t, e, h3, h4⟩ := hL (y.toNat - 2000) (by omega)
  unfold impl_firstDay
  rw [e]
  simp only
  exact ⟨h3, by omega⟩
end Go.Ab

namespace Go.Ab
open Go Go.Proofs
theorem impl_dayOf_DD : DOk Tryz.prog (DD [(108, dP D_impl_monthDays), (152, dP D_impl_firstDay)]) := DD_cons D_impl_monthDays_ok.e <| DD_cons D_impl_firstDay_ok.e <| DD_nil _
def impl_dayOf_b1 (a0 : Int) (a1 : Int) (a2 : Int) (i1 : Nat) (s1 : Int) : Except (Int) (Int) :=
  .ok (IntKind.wrap .i64 (s1 + (impl_monthDays a0 (i1 : Int))))
def impl_dayOf (a0 : Int) (a1 : Int) (a2 : Int) : Int :=
  (match loopR (impl_dayOf_b1 a0 a1 a2) ((a1).toNat - 1) 1 (IntKind.wrap .i64 ((IntKind.wrap .i64 ((impl_firstDay a0) + a2)) - 1)) with | .error e => e | .ok s1 => s1)
set_option maxHeartbeats 400000 in
set_option maxRecDepth 20000 in
theorem impl_dayOf_den (a0 : Int) (a1 : Int) (a2 : Int) (hp0 : 2000 ≤ a0) (hp1 : a0 ≤ 2273) (hp2 : 1 ≤ a1) (hp3 : a1 ≤ 12) (hp4 : 1 ≤ a2) (hp5 : a2 ≤ 31) : Den Tryz.prog 109 [.int .i64 a0, .int .i64 a1, .int .i64 a2] (.int .i64 (impl_dayOf a0 a1 a2)) := by
  generalize hR : impl_dayOf a0 a1 a2 = r
  unfold impl_dayOf at hR
  refine den_intro G_ok Tryz.func109 (by kernel_rfl) rfl Tryz.ntmps109 (by rw [Tryz.results109]) (by simp) rfl ?_
  intro c hL hc hk
  clear hL
  simp only [pars, Nat.zero_add]
  have hf9 := impl_firstDay_rng a0 hp0 hp1
  refine AWP.seq ?_
  refine AWP.regS G_ok impl_dayOf_DD hc (by kernel_rfl) (fun K hK => ?_); simp only [ea, gv, sv, D_impl_monthDays, D_impl_firstDay, reduceCtorEq, reduceIte, Nat.reduceBEq, Nat.reduceAdd, Nat.reduceEqDiff, Nat.reduceLT, Nat.reduceLeDiff, Nat.reduceMul, Nat.reduceSub, BEq.rfl, beq_self_eq_true, Int.reduceToNat]
  (refine hK _ ?_)
  clear hK K
  refine AWP.seq ?_
  refine AWP.regS G_ok impl_dayOf_DD hc (by kernel_rfl) (fun K hK => ?_); simp only [ea, gv, sv, D_impl_monthDays, D_impl_firstDay, reduceCtorEq, reduceIte, Nat.reduceBEq, Nat.reduceAdd, Nat.reduceEqDiff, Nat.reduceLT, Nat.reduceLeDiff, Nat.reduceMul, Nat.reduceSub, BEq.rfl, beq_self_eq_true, Int.reduceToNat]
  (refine ⟨by (trivial), hK _ ?_⟩)
  clear hK K
  refine AWP.seq ?_
  refine AWP.seq ?_
  refine AWP.regS G_ok impl_dayOf_DD hc (by kernel_rfl) (fun K hK => ?_); simp only [ea, gv, sv, D_impl_monthDays, D_impl_firstDay, reduceCtorEq, reduceIte, Nat.reduceBEq, Nat.reduceAdd, Nat.reduceEqDiff, Nat.reduceLT, Nat.reduceLeDiff, Nat.reduceMul, Nat.reduceSub, BEq.rfl, beq_self_eq_true, Int.reduceToNat]
  (refine hK _ ?_)
  clear hK K
  refine AWP.block ?_
  generalize hz1 : loopR (impl_dayOf_b1 a0 a1 a2) ((a1).toNat - 1) 1 (IntKind.wrap .i64 ((IntKind.wrap .i64 ((impl_firstDay a0) + a2)) - 1)) = z1 at hR
  refine AWP.range (impl_dayOf_b1 a0 a1 a2) (fun i1 s1 => ⟨[(0, .int .i64 a0), (1, .int .i64 a1), (7, .int .i64 s1), (8, .int .i64 (i1 : Int))], []⟩) (fun i1 s1 => 1 ≤ i1 ∧ 0 ≤ s1 ∧ s1 ≤ 30 + 366 * 273 + 31 * ((i1 : Int) - 1) ∧ 1 ≤ i1) ((a1).toNat) 1 (IntKind.wrap .i64 ((IntKind.wrap .i64 ((impl_firstDay a0) + a2)) - 1)) [] hz1 (by (omega)) (by ((and_intros <;> simp only [ob, ln] at * <;> omega))) (by (simp only [si, ea, gv, sv, hk, reduceCtorEq, reduceIte, Nat.reduceBEq, Nat.reduceAdd, Nat.reduceEqDiff, Nat.reduceLT, Nat.reduceLeDiff, Nat.reduceMul, Nat.reduceSub, BEq.rfl, beq_self_eq_true, Int.reduceToNat]; trivial)) ?_
  clear hz1
  intro i1 s1 hi1 hW1 hz1
  refine AWP.seq ?_
  refine AWP.seq ?_
  refine AWP.regS G_ok impl_dayOf_DD hc (by kernel_rfl) (fun K hK => ?_); simp only [ea, gv, sv, D_impl_monthDays, D_impl_firstDay, reduceCtorEq, reduceIte, Nat.reduceBEq, Nat.reduceAdd, Nat.reduceEqDiff, Nat.reduceLT, Nat.reduceLeDiff, Nat.reduceMul, Nat.reduceSub, BEq.rfl, beq_self_eq_true, Int.reduceToNat]
  (refine hK _ ?_)
  clear hK K
  refine AWP.cond rfl (fun hb => ?_) (fun hb => ?_)
  · have hlt1 : i1 < (a1).toNat := by ((simp only [ob, ln, bdv, sv] at *; omega))
    rw [loopR_lt hlt1] at hz1; simp only [impl_dayOf_b1] at hz1
    refine AWP.skip ?_
    refine AWP.seq ?_
    refine AWP.block ?_
    refine AWP.regS G_ok impl_dayOf_DD hc (by kernel_rfl) (fun K hK => ?_); simp only [ea, gv, sv, D_impl_monthDays, D_impl_firstDay, reduceCtorEq, reduceIte, Nat.reduceBEq, Nat.reduceAdd, Nat.reduceEqDiff, Nat.reduceLT, Nat.reduceLeDiff, Nat.reduceMul, Nat.reduceSub, BEq.rfl, beq_self_eq_true, Int.reduceToNat]
    (refine ⟨by (omega), hK _ ?_⟩)
    clear hK K
    refine AWP.regS G_ok impl_dayOf_DD hc (by kernel_rfl) (fun K hK => ?_); simp only [ea, gv, sv, D_impl_monthDays, D_impl_firstDay, reduceCtorEq, reduceIte, Nat.reduceBEq, Nat.reduceAdd, Nat.reduceEqDiff, Nat.reduceLT, Nat.reduceLeDiff, Nat.reduceMul, Nat.reduceSub, BEq.rfl, beq_self_eq_true, Int.reduceToNat]
    (refine hK _ ?_)
    clear hK K
    exact ⟨_, [], hlt1, by (have h9 := monthDays_ge a0 (i1 : Int) (by omega) (by simp only [ob] at *; omega); simp only [ob, ln] at *; omega), hz1, by (simp only [si, ea, gv, sv, hk, reduceCtorEq, reduceIte, Nat.reduceBEq, Nat.reduceAdd, Nat.reduceEqDiff, Nat.reduceLT, Nat.reduceLeDiff, Nat.reduceMul, Nat.reduceSub, BEq.rfl, beq_self_eq_true, Int.reduceToNat]; (and_intros <;> first | trivial | (rw [IntKind.wrap_i64]; omega)))⟩
  · obtain rfl : i1 = (a1).toNat := by ((simp only [ob, ln, bdv, sv] at *; omega))
    rw [loopR_ge (Nat.le_refl _)] at hz1; subst hz1; dsimp only at hR
    refine AWP.exit ?_; refine exitTo_here ?_
    refine AWP.seq ?_
    refine AWP.regS G_ok impl_dayOf_DD hc (by kernel_rfl) (fun K hK => ?_); simp only [ea, gv, sv, D_impl_monthDays, D_impl_firstDay, reduceCtorEq, reduceIte, Nat.reduceBEq, Nat.reduceAdd, Nat.reduceEqDiff, Nat.reduceLT, Nat.reduceLeDiff, Nat.reduceMul, Nat.reduceSub, BEq.rfl, beq_self_eq_true, Int.reduceToNat]
    (refine hK _ ?_)
    clear hK K
    refine AWP.ret ?_
    subst hR
    (simp only [en, si, ea, gv, sv, hk, reduceCtorEq, reduceIte, Nat.reduceBEq, Nat.reduceAdd, Nat.reduceEqDiff, Nat.reduceLT, Nat.reduceLeDiff, Nat.reduceMul, Nat.reduceSub, BEq.rfl, beq_self_eq_true, Int.reduceToNat]; done)
def D_impl_dayOf : DF
  | [x0, x1, x2] => some (.int .i64 (impl_dayOf (rdI x0) (rdI x1) (rdI x2)), false, [wI .i64 x0, wI .i64 x1, wI .i64 x2, 2000 ≤ (rdI x0), (rdI x0) ≤ 2273, 1 ≤ (rdI x1), (rdI x1) ≤ 12, 1 ≤ (rdI x2), (rdI x2) ≤ 31])
  | _ => none
theorem D_impl_dayOf_ok : OkD Tryz.prog 109 D_impl_dayOf := by
  intro xs r z ob h ho
  unfold D_impl_dayOf at h
  split at h
  · simp only [Option.some.injEq, Prod.mk.injEq] at h
    obtain ⟨rfl, rfl, rfl⟩ := h
    obtain ⟨h0, h1, h2, hp0, hp1, hp2, hp3, hp4, hp5, _⟩ := ho
    exact Den.sim (impl_dayOf_den _ _ _ hp0 hp1 hp2 hp3 hp4 hp5) (simOL_cons (wI_sim h0).1 <| simOL_cons (wI_sim h1).1 <| simOL_cons (wI_sim h2).1 <| trivial) (noIdL_cons (wI_sim h0).2 <| noIdL_cons (wI_sim h1).2 <| noIdL_cons (wI_sim h2).2 <| rfl) rfl
  · cases h
end Go.Ab

namespace Go.Ab
open Go Go.Proofs
theorem impl_DayOf_DD : DOk Tryz.prog (DD [(106, dP D_impl_isYear), (107, dP D_impl_isMonth), (108, dP D_impl_monthDays), (109, dP D_impl_dayOf), (42, dP D_impl_isDay), (68, dP D_impl_within)]) := DD_cons D_impl_isYear_ok.e <| DD_cons D_impl_isMonth_ok.e <| DD_cons D_impl_monthDays_ok.e <| DD_cons D_impl_dayOf_ok.e <| DD_cons D_impl_isDay_ok.e <| DD_cons D_impl_within_ok.e <| DD_nil _
def impl_DayOf (a0 : Int) (a1 : Int) (a2 : Int) : (Int × Int) :=
  (bif ((((!(impl_isYear a0)) || (!(impl_isMonth a1))) || (!(impl_within a2 1 (impl_monthDays a0 a1)))) || (!(impl_isDay (impl_dayOf a0 a1 a2)))) then (0, 2) else ((impl_dayOf a0 a1 a2), 0))
theorem impl_DayOf_den (a0 : Int) (a1 : Int) (a2 : Int)  : Den Tryz.prog 64 [.int .i64 a0, .int .i64 a1, .int .i64 a2] (.tup [.int .i64 ((impl_DayOf a0 a1 a2).1), .int .i64 ((impl_DayOf a0 a1 a2).2)]) := by
  generalize hR : impl_DayOf a0 a1 a2 = r
  unfold impl_DayOf at hR
  refine den_intro G_ok Tryz.func64 (by kernel_rfl) rfl Tryz.ntmps64 (by rw [Tryz.results64]) (by simp) rfl ?_
  intro c hL hc hk
  clear hL
  simp only [pars, Nat.zero_add]
  refine AWP.seq ?_
  refine AWP.regS G_ok impl_DayOf_DD hc (by kernel_rfl) (fun K hK => ?_); simp only [ea, gv, sv, D_impl_isYear, D_impl_isMonth, D_impl_monthDays, D_impl_dayOf, D_impl_isDay, D_impl_within, reduceCtorEq, reduceIte, Nat.reduceBEq, Nat.reduceAdd, Nat.reduceEqDiff, Nat.reduceLT, Nat.reduceLeDiff, Nat.reduceMul, Nat.reduceSub, BEq.rfl, beq_self_eq_true, Int.reduceToNat]
  (refine hK _ ?_)
  clear hK K
  refine AWP.seq ?_
  refine AWP.seq ?_
  refine AWP.regS G_ok impl_DayOf_DD hc (by kernel_rfl) (fun K hK => ?_); simp only [ea, gv, sv, D_impl_isYear, D_impl_isMonth, D_impl_monthDays, D_impl_dayOf, D_impl_isDay, D_impl_within, reduceCtorEq, reduceIte, Nat.reduceBEq, Nat.reduceAdd, Nat.reduceEqDiff, Nat.reduceLT, Nat.reduceLeDiff, Nat.reduceMul, Nat.reduceSub, BEq.rfl, beq_self_eq_true, Int.reduceToNat]
  (refine ⟨by ((have h9 := monthDays_ge a0 a1; simp only [impl_isYear, impl_isMonth, impl_within, Bool.not_or, Bool.not_not, Bool.and_eq_true, decide_eq_true_eq]; refine ⟨?_, ?_⟩ <;> intro h <;> omega)), hK _ ?_⟩)
  clear hK K
  refine AWP.cond rfl (fun hb => ?_) (fun hb => ?_)
  · (simp only [hb, cond_true] at hR)
    refine AWP.seq ?_
    refine AWP.regS G_ok impl_DayOf_DD hc (by kernel_rfl) (fun K hK => ?_); simp only [ea, gv, sv, D_impl_isYear, D_impl_isMonth, D_impl_monthDays, D_impl_dayOf, D_impl_isDay, D_impl_within, reduceCtorEq, reduceIte, Nat.reduceBEq, Nat.reduceAdd, Nat.reduceEqDiff, Nat.reduceLT, Nat.reduceLeDiff, Nat.reduceMul, Nat.reduceSub, BEq.rfl, beq_self_eq_true, Int.reduceToNat]
    (refine hK _ ?_)
    clear hK K
    refine AWP.ret ?_
    subst hR
    (simp only [en, si, ea, gv, sv, hk, reduceCtorEq, reduceIte, Nat.reduceBEq, Nat.reduceAdd, Nat.reduceEqDiff, Nat.reduceLT, Nat.reduceLeDiff, Nat.reduceMul, Nat.reduceSub, BEq.rfl, beq_self_eq_true, Int.reduceToNat]; done)
  · (simp only [hb, cond_false] at hR)
    refine AWP.skip ?_
    refine AWP.seq ?_
    refine AWP.regS G_ok impl_DayOf_DD hc (by kernel_rfl) (fun K hK => ?_); simp only [ea, gv, sv, D_impl_isYear, D_impl_isMonth, D_impl_monthDays, D_impl_dayOf, D_impl_isDay, D_impl_within, reduceCtorEq, reduceIte, Nat.reduceBEq, Nat.reduceAdd, Nat.reduceEqDiff, Nat.reduceLT, Nat.reduceLeDiff, Nat.reduceMul, Nat.reduceSub, BEq.rfl, beq_self_eq_true, Int.reduceToNat]
    (refine ⟨by ((have h9 := monthDays_ge a0 a1; have hb8 := hb; simp [impl_isYear, impl_isMonth, impl_within] at hb8; omega)), hK _ ?_⟩)
    clear hK K
    refine AWP.ret ?_
    subst hR
    (simp only [en, si, ea, gv, sv, hk, reduceCtorEq, reduceIte, Nat.reduceBEq, Nat.reduceAdd, Nat.reduceEqDiff, Nat.reduceLT, Nat.reduceLeDiff, Nat.reduceMul, Nat.reduceSub, BEq.rfl, beq_self_eq_true, Int.reduceToNat]; done)
def D_impl_DayOf : DF
  | [x0, x1, x2] => some (.tup [.int .i64 ((impl_DayOf (rdI x0) (rdI x1) (rdI x2)).1), .int .i64 ((impl_DayOf (rdI x0) (rdI x1) (rdI x2)).2)], false, [wI .i64 x0, wI .i64 x1, wI .i64 x2])
  | _ => none
theorem D_impl_DayOf_ok : OkD Tryz.prog 64 D_impl_DayOf := by
  intro xs r z ob h ho
  unfold D_impl_DayOf at h
  split at h
  · simp only [Option.some.injEq, Prod.mk.injEq] at h
    obtain ⟨rfl, rfl, rfl⟩ := h
    obtain ⟨h0, h1, h2, _⟩ := ho
    exact Den.sim (impl_DayOf_den _ _ _ ) (simOL_cons (wI_sim h0).1 <| simOL_cons (wI_sim h1).1 <| simOL_cons (wI_sim h2).1 <| trivial) (noIdL_cons (wI_sim h0).2 <| noIdL_cons (wI_sim h1).2 <| noIdL_cons (wI_sim h2).2 <| rfl) rfl
  · cases h
end Go.Ab

namespace Go.Ab
open Go Go.Proofs
theorem impl_DateText_len (a : Int) : (impl_DateText a).length ≤ 10000 := by
  unfold impl_DateText impl_isDay impl_within
  by_cases h : 0 ≤ a ∧ a ≤ 99999
  · have hr := impl_dateOf_rng a h.1 h.2
    have l1 := impl_Decimal_len (impl_dateOf a).1
    have l2 := impl_padded_len (impl_dateOf a).2.1 (by omega) (by omega)
    have l3 := impl_padded_len (impl_dateOf a).2.2 (by omega) (by omega)
    simp only [h.1, h.2, decide_true, Bool.and_self, Bool.not_true, cond_false, List.length_append, List.length_cons, List.length_nil]
    omega
  · have : (decide (0 ≤ a) && decide (a ≤ 99999)) = false := by simpa using h
    simp [this]
end Go.Ab

namespace Go.Ab
open Go Go.Proofs
theorem strings_Split_len (a b : List UInt8) (h : a.length ≤ 1048576) : (strings_Split a b).length ≤ 1048577 ∧ ∀ x ∈ strings_Split a b, x.length ≤ 1048576 := by
  obtain ⟨h1, h2⟩ := splitC_len (b.getD 0 0) a
  exact ⟨by unfold strings_Split; omega, fun x hx => by have := h2 x hx; omega⟩
end Go.Ab

namespace Go.Ab
open Go Go.Proofs
theorem impl_ReadDate_DD : DOk Tryz.prog (DD [(32, dP D_impl_DateText), (62, dP D_strings_Split), (63, dP D_impl_digitsOf), (64, dP D_impl_DayOf)]) := DD_cons D_impl_DateText_ok.e <| DD_cons D_strings_Split_ok.e <| DD_cons D_impl_digitsOf_ok.e <| DD_cons D_impl_DayOf_ok.e <| DD_nil _
def impl_ReadDate (a0 : (List UInt8)) : (Int × Bool) :=
  (bif (((strings_Split a0 [45]).length : Int) != 3) then (0, false) else (bif (((((!((impl_digitsOf ((strings_Split a0 [45]).getD 0 default)).2)) || (!((impl_digitsOf ((strings_Split a0 [45]).getD 1 default)).2))) || (!((impl_digitsOf ((strings_Split a0 [45]).getD 2 default)).2))) || (((impl_DayOf ((impl_digitsOf ((strings_Split a0 [45]).getD 0 default)).1) ((impl_digitsOf ((strings_Split a0 [45]).getD 1 default)).1) ((impl_digitsOf ((strings_Split a0 [45]).getD 2 default)).1)).2) != 0)) || ((impl_DateText ((impl_DayOf ((impl_digitsOf ((strings_Split a0 [45]).getD 0 default)).1) ((impl_digitsOf ((strings_Split a0 [45]).getD 1 default)).1) ((impl_digitsOf ((strings_Split a0 [45]).getD 2 default)).1)).1)) != a0)) then (0, false) else ((impl_DayOf ((impl_digitsOf ((strings_Split a0 [45]).getD 0 default)).1) ((impl_digitsOf ((strings_Split a0 [45]).getD 1 default)).1) ((impl_digitsOf ((strings_Split a0 [45]).getD 2 default)).1)).1, true)))
theorem impl_ReadDate_den (a0 : (List UInt8)) (hb0 : a0.length < 1099511627776) (hp0 : a0.length ≤ 1048576) : Den Tryz.prog 29 [.str a0] (.tup [.int .i64 ((impl_ReadDate a0).1), .bool ((impl_ReadDate a0).2)]) := by
  generalize hR : impl_ReadDate a0 = r
  unfold impl_ReadDate at hR
  refine den_intro G_ok Tryz.func29 (by kernel_rfl) rfl Tryz.ntmps29 (by rw [Tryz.results29]) (by simp) rfl ?_
  intro c hL hc hk
  obtain ⟨hL0, _⟩ := hL
  have hw0 : a0.length < 9223372036854775808 := Nat.lt_succ_of_le hL0
  clear hL0
  simp only [pars, Nat.zero_add]
  have hs9 := strings_Split_len a0 [45] (by omega)
  refine AWP.seq ?_
  refine AWP.regS G_ok impl_ReadDate_DD hc (by kernel_rfl) (fun K hK => ?_); simp only [ea, gv, sv, D_impl_DateText, D_strings_Split, D_impl_digitsOf, D_impl_DayOf, reduceCtorEq, reduceIte, Nat.reduceBEq, Nat.reduceAdd, Nat.reduceEqDiff, Nat.reduceLT, Nat.reduceLeDiff, Nat.reduceMul, Nat.reduceSub, BEq.rfl, beq_self_eq_true, Int.reduceToNat]
  (refine hK _ ?_)
  clear hK K
  refine AWP.seq ?_
  refine AWP.regS G_ok impl_ReadDate_DD hc (by kernel_rfl) (fun K hK => ?_); simp only [ea, gv, sv, D_impl_DateText, D_strings_Split, D_impl_digitsOf, D_impl_DayOf, reduceCtorEq, reduceIte, Nat.reduceBEq, Nat.reduceAdd, Nat.reduceEqDiff, Nat.reduceLT, Nat.reduceLeDiff, Nat.reduceMul, Nat.reduceSub, BEq.rfl, beq_self_eq_true, Int.reduceToNat]
  (refine ⟨by (trivial), hK _ ?_⟩)
  clear hK K
  refine AWP.seq ?_
  refine AWP.seq ?_
  refine AWP.regS G_ok impl_ReadDate_DD hc (by kernel_rfl) (fun K hK => ?_); simp only [ea, gv, sv, D_impl_DateText, D_strings_Split, D_impl_digitsOf, D_impl_DayOf, reduceCtorEq, reduceIte, Nat.reduceBEq, Nat.reduceAdd, Nat.reduceEqDiff, Nat.reduceLT, Nat.reduceLeDiff, Nat.reduceMul, Nat.reduceSub, BEq.rfl, beq_self_eq_true, Int.reduceToNat]
  (refine hK _ ?_)
  clear hK K
  refine AWP.cond rfl (fun hb => ?_) (fun hb => ?_)
  · (simp only [hb, cond_true] at hR)
    refine AWP.seq ?_
    refine AWP.regS G_ok impl_ReadDate_DD hc (by kernel_rfl) (fun K hK => ?_); simp only [ea, gv, sv, D_impl_DateText, D_strings_Split, D_impl_digitsOf, D_impl_DayOf, reduceCtorEq, reduceIte, Nat.reduceBEq, Nat.reduceAdd, Nat.reduceEqDiff, Nat.reduceLT, Nat.reduceLeDiff, Nat.reduceMul, Nat.reduceSub, BEq.rfl, beq_self_eq_true, Int.reduceToNat]
    (refine hK _ ?_)
    clear hK K
    refine AWP.ret ?_
    subst hR
    (simp only [en, si, ea, gv, sv, hk, reduceCtorEq, reduceIte, Nat.reduceBEq, Nat.reduceAdd, Nat.reduceEqDiff, Nat.reduceLT, Nat.reduceLeDiff, Nat.reduceMul, Nat.reduceSub, BEq.rfl, beq_self_eq_true, Int.reduceToNat]; done)
  · (simp only [hb, cond_false] at hR)
    refine AWP.skip ?_
    refine AWP.seq ?_
    refine AWP.regS G_ok impl_ReadDate_DD hc (by kernel_rfl) (fun K hK => ?_); simp only [ea, gv, sv, D_impl_DateText, D_strings_Split, D_impl_digitsOf, D_impl_DayOf, reduceCtorEq, reduceIte, Nat.reduceBEq, Nat.reduceAdd, Nat.reduceEqDiff, Nat.reduceLT, Nat.reduceLeDiff, Nat.reduceMul, Nat.reduceSub, BEq.rfl, beq_self_eq_true, Int.reduceToNat]
    (refine ⟨by ((simp only [ob, ln, bdv, sv] at *; omega)), hK _ ?_⟩)
    clear hK K
    refine AWP.seq ?_
    refine AWP.regS G_ok impl_ReadDate_DD hc (by kernel_rfl) (fun K hK => ?_); simp only [ea, gv, sv, D_impl_DateText, D_strings_Split, D_impl_digitsOf, D_impl_DayOf, reduceCtorEq, reduceIte, Nat.reduceBEq, Nat.reduceAdd, Nat.reduceEqDiff, Nat.reduceLT, Nat.reduceLeDiff, Nat.reduceMul, Nat.reduceSub, BEq.rfl, beq_self_eq_true, Int.reduceToNat]
    (refine ⟨by ((simp only [ob, ln, bdv, sv] at *; omega)), hK _ ?_⟩)
    clear hK K
    refine AWP.seq ?_
    refine AWP.regS G_ok impl_ReadDate_DD hc (by kernel_rfl) (fun K hK => ?_); simp only [ea, gv, sv, D_impl_DateText, D_strings_Split, D_impl_digitsOf, D_impl_DayOf, reduceCtorEq, reduceIte, Nat.reduceBEq, Nat.reduceAdd, Nat.reduceEqDiff, Nat.reduceLT, Nat.reduceLeDiff, Nat.reduceMul, Nat.reduceSub, BEq.rfl, beq_self_eq_true, Int.reduceToNat]
    (refine ⟨by ((simp only [ob, ln, bdv, sv] at *; omega)), hK _ ?_⟩)
    clear hK K
    refine AWP.seq ?_
    refine AWP.regS G_ok impl_ReadDate_DD hc (by kernel_rfl) (fun K hK => ?_); simp only [ea, gv, sv, D_impl_DateText, D_strings_Split, D_impl_digitsOf, D_impl_DayOf, reduceCtorEq, reduceIte, Nat.reduceBEq, Nat.reduceAdd, Nat.reduceEqDiff, Nat.reduceLT, Nat.reduceLeDiff, Nat.reduceMul, Nat.reduceSub, BEq.rfl, beq_self_eq_true, Int.reduceToNat]
    (refine hK _ ?_)
    clear hK K
    refine AWP.seq ?_
    refine AWP.seq ?_
    refine AWP.regS G_ok impl_ReadDate_DD hc (by kernel_rfl) (fun K hK => ?_); simp only [ea, gv, sv, D_impl_DateText, D_strings_Split, D_impl_digitsOf, D_impl_DayOf, reduceCtorEq, reduceIte, Nat.reduceBEq, Nat.reduceAdd, Nat.reduceEqDiff, Nat.reduceLT, Nat.reduceLeDiff, Nat.reduceMul, Nat.reduceSub, BEq.rfl, beq_self_eq_true, Int.reduceToNat]
    (refine hK _ ?_)
    clear hK K
    refine AWP.cond rfl (fun hb => ?_) (fun hb => ?_)
    · (simp only [hb, cond_true] at hR)
      refine AWP.seq ?_
      refine AWP.regS G_ok impl_ReadDate_DD hc (by kernel_rfl) (fun K hK => ?_); simp only [ea, gv, sv, D_impl_DateText, D_strings_Split, D_impl_digitsOf, D_impl_DayOf, reduceCtorEq, reduceIte, Nat.reduceBEq, Nat.reduceAdd, Nat.reduceEqDiff, Nat.reduceLT, Nat.reduceLeDiff, Nat.reduceMul, Nat.reduceSub, BEq.rfl, beq_self_eq_true, Int.reduceToNat]
      (refine hK _ ?_)
      clear hK K
      refine AWP.ret ?_
      subst hR
      (simp only [en, si, ea, gv, sv, hk, reduceCtorEq, reduceIte, Nat.reduceBEq, Nat.reduceAdd, Nat.reduceEqDiff, Nat.reduceLT, Nat.reduceLeDiff, Nat.reduceMul, Nat.reduceSub, BEq.rfl, beq_self_eq_true, Int.reduceToNat]; done)
    · (simp only [hb, cond_false] at hR)
      refine AWP.skip ?_
      refine AWP.seq ?_
      refine AWP.regS G_ok impl_ReadDate_DD hc (by kernel_rfl) (fun K hK => ?_); simp only [ea, gv, sv, D_impl_DateText, D_strings_Split, D_impl_digitsOf, D_impl_DayOf, reduceCtorEq, reduceIte, Nat.reduceBEq, Nat.reduceAdd, Nat.reduceEqDiff, Nat.reduceLT, Nat.reduceLeDiff, Nat.reduceMul, Nat.reduceSub, BEq.rfl, beq_self_eq_true, Int.reduceToNat]
      (refine hK _ ?_)
      clear hK K
      refine AWP.ret ?_
      subst hR
      (simp only [en, si, ea, gv, sv, hk, reduceCtorEq, reduceIte, Nat.reduceBEq, Nat.reduceAdd, Nat.reduceEqDiff, Nat.reduceLT, Nat.reduceLeDiff, Nat.reduceMul, Nat.reduceSub, BEq.rfl, beq_self_eq_true, Int.reduceToNat]; done)
def D_impl_ReadDate : DF
  | [x0] => some (.tup [.int .i64 ((impl_ReadDate (rdS x0)).1), .bool ((impl_ReadDate (rdS x0)).2)], false, [wS x0, (rdS x0).length < 1099511627776, (rdS x0).length ≤ 1048576])
  | _ => none
theorem D_impl_ReadDate_ok : OkD Tryz.prog 29 D_impl_ReadDate := by
  intro xs r z ob h ho
  unfold D_impl_ReadDate at h
  split at h
  · simp only [Option.some.injEq, Prod.mk.injEq] at h
    obtain ⟨rfl, rfl, rfl⟩ := h
    obtain ⟨h0, hb0, hp0, _⟩ := ho
    exact Den.sim (impl_ReadDate_den _ hb0 hp0) (simOL_cons (wS_sim h0).1 <| trivial) (noIdL_cons (wS_sim h0).2 <| rfl) rfl
  · cases h
end Go.Ab

namespace Go.Ab
open Go Go.Proofs
theorem spec_l03Days_ge (y m : Int) : 28 ≤ spec_l03Days y m ∧ spec_l03Days y m ≤ 31 := by
  unfold spec_l03Days
  cases spec_l03Leap y <;> cases (m == 2) <;> cases (m == 4) <;> cases (m == 6) <;> cases (m == 9) <;> cases (m == 11) <;> simp
theorem mdD_spec {y m : Int} (h1 : 1 ≤ m) (h2 : m ≤ 12) : spec_l03Days y m = mdD (leapD y) m.toNat := by
  show spec_l03Days y m = mdD (spec_l03Leap y) m.toNat
  unfold spec_l03Days
  rcases month_cases h1 h2 with rfl | rfl | rfl | rfl | rfl | rfl | rfl | rfl | rfl | rfl | rfl | rfl <;> cases spec_l03Leap y <;> rfl
end Go.Ab

namespace Go.Ab
open Go Go.Proofs
def u8D (k : Nat) : UInt8 := UInt8.ofNat (48 + k)
theorem u8D_val {k : Nat} (h : k < 10) : (u8D k).toNat = 48 + k := u8_dig k h
def pad2 (m : Nat) : List UInt8 := [u8D (m / 10), u8D (m % 10)]
def pad4 (y : Nat) : List UInt8 := [u8D (y / 1000), u8D (y / 100 % 10), u8D (y / 10 % 10), u8D (y % 10)]
theorem pad2_dig {m : Nat} (h : m < 100) : allDig (pad2 m) ∧ digV 0 (pad2 m) = m := by
  have h1 := u8D_val (k := m / 10) (by omega)
  have h2 := u8D_val (k := m % 10) (by omega)
  refine ⟨fun b hb => ?_, ?_⟩
  · simp only [pad2, List.mem_cons, List.not_mem_nil, or_false] at hb
    rcases hb with rfl | rfl <;> omega
  · unfold pad2
    rw [digV_cons, digV_cons, digV_nil, h1, h2]; omega
theorem pad4_dig {y : Nat} (h : y < 10000) : allDig (pad4 y) ∧ digV 0 (pad4 y) = y := by
  have h1 := u8D_val (k := y / 1000) (by omega)
  have h2 := u8D_val (k := y / 100 % 10) (by omega)
  have h3 := u8D_val (k := y / 10 % 10) (by omega)
  have h4 := u8D_val (k := y % 10) (by omega)
  refine ⟨fun b hb => ?_, ?_⟩
  · simp only [pad4, List.mem_cons, List.not_mem_nil, or_false] at hb
    rcases hb with rfl | rfl | rfl | rfl <;> omega
  · unfold pad4
    rw [digV_cons, digV_cons, digV_cons, digV_cons, digV_nil, h1, h2, h3, h4]; omega
theorem dec_pad4 {y : Nat} (h1 : 1000 ≤ y) (h2 : y < 10000) : Lib.decDigits y = pad4 y := by
  rw [decDigits_snoc y (by omega), decDigits_snoc (y / 10) (by omega), decDigits_snoc (y / 10 / 10) (by omega), Lib.decDigits_one (by omega)]
  unfold pad4 u8D
  rw [show y / 10 / 10 / 10 = y / 1000 by omega, show y / 10 / 10 % 10 = y / 100 % 10 by omega]
  rfl
theorem padded_pad2 {m : Nat} (h : m < 100) : impl_padded (m : Int) 2 = pad2 m := by
  unfold impl_padded
  rw [impl_Decimal_eq, itoa_pos]
  by_cases h10 : m < 10
  · rw [Lib.decDigits_one h10]
    unfold pad2 u8D
    rw [show m / 10 = 0 by omega, show m % 10 = m by omega]
    rfl
  · rw [decDigits_snoc m h10, Lib.decDigits_one (by omega)]
    rfl
def D10 (y m d : Nat) : List UInt8 := pad4 y ++ 45 :: (pad2 m ++ 45 :: pad2 d)
theorem dateText_D10 {a : Int} (h1 : 0 ≤ a) (h2 : a ≤ 99999) : ∃ y m d : Nat, impl_dateOf a = ((y : Int), (m : Int), (d : Int)) ∧ 2000 ≤ y ∧ y ≤ 2273 ∧ 1 ≤ m ∧ m ≤ 12 ∧ 1 ≤ d ∧ d ≤ 31 ∧ DateIs a y m d ∧ impl_DateText a = D10 y m d := by
  obtain ⟨y, m, d, e, hy, hd⟩ := impl_dateOf_is a h1 h2
  have hm := mdD_le (l := leapD y) hd.2.1 hd.2.2.1
  obtain ⟨q1, q2, q3, q4, q5, q6⟩ := hd
  refine ⟨y.toNat, m.toNat, d.toNat, ?_, by omega, by omega, by omega, by omega, by omega, by omega, ?_, ?_⟩
  · rw [e, show (y.toNat : Int) = y by omega, show (m.toNat : Int) = m by omega, show (d.toNat : Int) = d by omega]
  · rw [show (y.toNat : Int) = y by omega, show (m.toNat : Int) = m by omega, show (d.toNat : Int) = d by omega]
    exact ⟨q1, q2, q3, q4, q5, q6⟩
  · unfold impl_DateText impl_isDay impl_within
    simp only [h1, h2, decide_true, Bool.and_self, Bool.not_true, cond_false, e]
    conv => lhs; rw [show y = (y.toNat : Int) by omega, show m = (m.toNat : Int) by omega, show d = (d.toNat : Int) by omega]
    rw [impl_Decimal_eq, itoa_pos, dec_pad4 (by omega) (by omega), padded_pad2 (by omega), padded_pad2 (by omega)]
    unfold D10
    simp
theorem dig_cond (x : Int) : (decide (x < 48) || decide (57 < x)) = !(decide (48 ≤ x) && decide (x ≤ 57)) := by
  apply Bool.eq_iff_iff.2
  simp only [Bool.or_eq_true, decide_eq_true_eq, Bool.not_eq_true', Bool.and_eq_false_iff, decide_eq_false_iff_not]
  omega
theorem l03Digits_eq (l : List UInt8) (h : l.length ≤ 18) : spec_l03Digits l = if allDig l then (((digV 0 l : Nat) : Int), true) else (0, false) := by
  unfold spec_l03Digits
  have hpow : (0 + 1) * 10 ^ (l.length - 0) ≤ E18 := by
    have : 10 ^ (l.length - 0) ≤ 10 ^ 18 := Nat.pow_le_pow_right (by decide) (by omega)
    have h6 : (10 : Nat) ^ 18 = 1000000000000000000 := by decide
    unfold E18; omega
  have hL := digit_loop l (spec_l03Digits_b1 l) (fun i s => by
    unfold spec_l03Digits_b1
    rw [dig_cond]) (l.length - 0) 0 0 (by omega) hpow
  rw [List.drop_zero] at hL
  rw [show (0 : Int) = ((0 : Nat) : Int) from rfl, hL]
  by_cases hA : allDig l
  · rw [if_pos hA, if_pos hA]
  · rw [if_neg hA, if_neg hA]; rfl
theorem digitsOf_eq (l : List UInt8) (h : l.length ≤ 18) (h0 : l ≠ []) : impl_digitsOf l = if allDig l then (((digV 0 l : Nat) : Int), true) else (0, false) := by
  unfold impl_digitsOf
  have hpow : (0 + 1) * 10 ^ (l.length - 0) ≤ E18 := by
    have : 10 ^ (l.length - 0) ≤ 10 ^ 18 := Nat.pow_le_pow_right (by decide) (by omega)
    have h6 : (10 : Nat) ^ 18 = 1000000000000000000 := by decide
    unfold E18; omega
  have hL := digit_loop l (impl_digitsOf_b1 l) (fun i s => by
    unfold impl_digitsOf_b1
    rw [dig_cond]) (l.length - 0) 0 0 (by omega) hpow
  rw [List.drop_zero] at hL
  rw [show (0 : Int) = ((0 : Nat) : Int) from rfl, hL]
  have hw : impl_within (l.length : Int) 1 18 = true := by
    have := List.length_pos_iff.2 h0
    unfold impl_within; simp; omega
  by_cases hA : allDig l
  · rw [if_pos hA, if_pos hA]; simp only [hw]
  · rw [if_neg hA, if_neg hA]; rfl
end Go.Ab

namespace Go.Ab
open Go Go.Proofs
theorem yb_le {y : Int} (h1 : 2000 ≤ y) (h2 : y ≤ 2274) : 0 ≤ ybD y ∧ ybD y ≤ 100284 := by unfold ybD; omega
theorem mb_le' : ∀ (l : Bool) (m : Fin 13), mbD l m ≤ 335 := by decide
theorem mb_le {l : Bool} {m : Nat} (h : m ≤ 12) : mbD l m ≤ 335 := mb_le' l ⟨m, by omega⟩
theorem l03Number_val (y m d : Nat) (h1 : 2000 ≤ y) (h2 : y ≤ 2273) (h3 : 1 ≤ m) (h4 : m ≤ 12) (h5 : 1 ≤ d) (h6 : d ≤ 31) : spec_l03Number y m d = ybD y + mbD (leapD y) m + d - 1 := by
  have L1 := loopR_allF (b := spec_l03Number_b1 y m d) (I := fun i t => 2000 ≤ i ∧ (i ≤ 2273 → t = ybD i + d - 1)) (fun i s hI => by
    obtain ⟨hI1, hI2⟩ := hI
    unfold spec_l03Number_b1
    have hlp : spec_l03Leap (i : Int) = leapD (i : Int) := rfl
    rw [hlp]
    by_cases hle : i ≤ 2272
    · have hs := hI2 (by omega)
      have hb := yb_le (y := (i : Int)) (by omega) (by omega)
      have hn := leap_yb (i : Int) (by omega)
      cases hl : leapD (i : Int) with
      | true =>
        rw [hl] at hn
        simp only [cond_true] at hn ⊢
        refine ⟨_, rfl, by omega, fun _ => ?_⟩
        rw [wrap_id (n := s + 365) (by omega) (by omega), wrap_id (by omega) (by omega)]
        push_cast
        omega
      | false =>
        rw [hl] at hn
        simp only [cond_false] at hn ⊢
        refine ⟨_, rfl, by omega, fun _ => ?_⟩
        rw [wrap_id (by omega) (by omega)]
        push_cast
        omega
    · cases leapD (i : Int) with
      | true => exact ⟨_, rfl, by omega, fun _ => by omega⟩
      | false => exact ⟨_, rfl, by omega, fun _ => by omega⟩) (y - 2000) 2000 ((d : Int) - 1) ⟨by omega, fun _ => by simp [ybD]⟩
  obtain ⟨t, e1, _, q1⟩ := L1
  have q1 := q1 (by omega)
  rw [show 2000 + (y - 2000) = y by omega] at q1
  have hyb := yb_le (y := (y : Int)) (by omega) (by omega)
  have L2 := loopR_allF (b := spec_l03Number_b2 y m d t) (I := fun i s => 1 ≤ i ∧ (i ≤ 12 → s = t + mbD (leapD y) i)) (fun i s hI => by
    obtain ⟨hI1, hI2⟩ := hI
    refine ⟨_, rfl, by omega, fun hle => ?_⟩
    have hs := hI2 (by omega)
    have hm := mdD_spec (y := (y : Int)) (m := (i : Int)) (by omega) (by omega)
    have hsu := mb_succ (l := leapD y) (m := (i : Int)) (by omega) (by omega)
    have hml := mdD_le (l := leapD y) (m := (i : Int)) (by omega) (by omega)
    have hbl := mb_le (l := leapD y) (m := i) (by omega)
    rw [show ((i : Int) + 1).toNat = i + 1 by omega, Int.toNat_natCast] at hsu
    rw [Int.toNat_natCast] at hm hml
    rw [wrap_id (by omega) (by omega), hm]
    omega) (m - 1) 1 t ⟨by omega, fun _ => by rw [mb_first]; simp⟩
  obtain ⟨u, e2, _, q2⟩ := L2
  have q2 := q2 (by omega)
  rw [show 1 + (m - 1) = m by omega] at q2
  unfold spec_l03Number
  rw [wrap_id (n := (d : Int) - 1) (by omega) (by omega), Int.toNat_natCast, Int.toNat_natCast, e1]
  simp only
  rw [e2]
  simp only
  omega
theorem firstDay_val (y : Nat) (h1 : 2000 ≤ y) (h2 : y ≤ 2273) : impl_firstDay y = ybD y := by
  have L1 := loopR_allF (b := impl_firstDay_b1 y) (I := fun i t => 2000 ≤ i ∧ (i ≤ 2273 → t = ybD i)) (fun i s hI => by
    obtain ⟨hI1, hI2⟩ := hI
    refine ⟨_, rfl, by omega, fun hle => ?_⟩
    have hs := hI2 (by omega)
    have hb := yb_le (y := (i : Int)) (by omega) (by omega)
    have hn := leap_yb (i : Int) (by omega)
    have hyd : impl_yearDays (i : Int) = 365 + (bif leapD (i : Int) then 1 else 0) := by
      unfold impl_yearDays; rw [leap_eq (by omega) (by omega)]; cases leapD (i : Int) <;> rfl
    have hy := impl_yearDays_eq (i : Int)
    rw [wrap_id (by omega) (by omega), hyd]
    push_cast
    omega) (y - 2000) 2000 0 ⟨by omega, fun _ => by simp [ybD]⟩
  obtain ⟨t, e1, _, q1⟩ := L1
  have q1 := q1 (by omega)
  rw [show 2000 + (y - 2000) = y by omega] at q1
  unfold impl_firstDay
  rw [Int.toNat_natCast, e1]
  exact q1
theorem dayOf_val (y m d : Nat) (h1 : 2000 ≤ y) (h2 : y ≤ 2273) (h3 : 1 ≤ m) (h4 : m ≤ 12) (h5 : 1 ≤ d) (h6 : d ≤ 31) : impl_dayOf y m d = ybD y + mbD (leapD y) m + d - 1 := by
  have hyb := yb_le (y := (y : Int)) (by omega) (by omega)
  have L2 := loopR_allF (b := impl_dayOf_b1 y m d) (I := fun i s => 1 ≤ i ∧ (i ≤ 12 → s = ybD y + d - 1 + mbD (leapD y) i)) (fun i s hI => by
    obtain ⟨hI1, hI2⟩ := hI
    refine ⟨_, rfl, by omega, fun hle => ?_⟩
    have hs := hI2 (by omega)
    have hm := mdD_impl (y := (y : Int)) (m := (i : Int)) (by omega) (by omega) (by omega) (by omega)
    have hsu := mb_succ (l := leapD y) (m := (i : Int)) (by omega) (by omega)
    have hml := mdD_le (l := leapD y) (m := (i : Int)) (by omega) (by omega)
    have hbl := mb_le (l := leapD y) (m := i) (by omega)
    rw [show ((i : Int) + 1).toNat = i + 1 by omega, Int.toNat_natCast] at hsu
    rw [Int.toNat_natCast] at hm hml
    rw [wrap_id (by omega) (by omega), hm]
    omega) (m - 1) 1 (ybD y + d - 1) ⟨by omega, fun _ => by rw [mb_first]; simp⟩
  obtain ⟨u, e2, _, q2⟩ := L2
  have q2 := q2 (by omega)
  rw [show 1 + (m - 1) = m by omega] at q2
  unfold impl_dayOf
  rw [firstDay_val y h1 h2, wrap_id (n := ybD y + (d : Int)) (by omega) (by omega), wrap_id (by omega) (by omega), Int.toNat_natCast, e2]
  simp only
  omega
end Go.Ab

namespace Go.Ab
open Go Go.Proofs
def DateSpec (w : List UInt8) (r : Int × Bool) : Prop :=
  (∃ a : Int, 0 ≤ a ∧ a ≤ 99999 ∧ w = impl_DateText a ∧ r = (a, true)) ∨ ((∀ a : Int, 0 ≤ a → a ≤ 99999 → w ≠ impl_DateText a) ∧ r = (0, false))
theorem D10_inj {y m d y' m' d' : Nat} (h1 : y < 10000) (h2 : m < 100) (h3 : d < 100) (h1' : y' < 10000) (h2' : m' < 100) (h3' : d' < 100) (h : D10 y m d = D10 y' m' d') : y = y' ∧ m = m' ∧ d = d' := by
  have t1 : ∀ y m d, (D10 y m d).take 4 = pad4 y := fun _ _ _ => rfl
  have t2 : ∀ y m d, ((D10 y m d).take 7).drop 5 = pad2 m := fun _ _ _ => rfl
  have t3 : ∀ y m d, (D10 y m d).drop 8 = pad2 d := fun _ _ _ => rfl
  have e1 := congrArg (fun l => digV 0 (List.take 4 l)) h
  have e2 := congrArg (fun l => digV 0 ((List.take 7 l).drop 5)) h
  have e3 := congrArg (fun l => digV 0 (List.drop 8 l)) h
  simp only [t1, t2, t3] at e1 e2 e3
  rw [(pad4_dig h1).2, (pad4_dig h1').2] at e1
  rw [(pad2_dig h2).2, (pad2_dig h2').2] at e2
  rw [(pad2_dig h3).2, (pad2_dig h3').2] at e3
  exact ⟨e1, e2, e3⟩
theorem dateText_inj {a a' : Int} (h1 : 0 ≤ a) (h2 : a ≤ 99999) (h1' : 0 ≤ a') (h2' : a' ≤ 99999) (h : impl_DateText a = impl_DateText a') : a = a' := by
  obtain ⟨y, m, d, _, _, _, _, _, _, _, hd, e⟩ := dateText_D10 h1 h2
  obtain ⟨y', m', d', _, _, _, _, _, _, _, hd', e'⟩ := dateText_D10 h1' h2'
  rw [e, e'] at h
  obtain ⟨rfl, rfl, rfl⟩ := D10_inj (by omega) (by omega) (by omega) (by omega) (by omega) (by omega) h
  have q := hd.2.2.2.2.2
  have q' := hd'.2.2.2.2.2
  omega
theorem DateSpec.unique {w : List UInt8} {r r' : Int × Bool} (h : DateSpec w r) (h' : DateSpec w r') : r = r' := by
  rcases h with ⟨n, h0, h1, h2, rfl⟩ | ⟨h1, rfl⟩ <;> rcases h' with ⟨n', h0', h1', h2', rfl⟩ | ⟨h1', rfl⟩
  · rw [dateText_inj h0 h1 h0' h1' (h2.symm.trans h2')]
  · exact absurd h2 (h1' n h0 h1)
  · exact absurd h2' (h1 n' h0' h1')
  · rfl
theorem DateSpec.of {w : List UInt8} {r : Int × Bool} (h1 : r = (0, false) ∨ ∃ a : Int, 0 ≤ a ∧ a ≤ 99999 ∧ w = impl_DateText a) (h2 : ∀ a : Int, 0 ≤ a → a ≤ 99999 → w = impl_DateText a → r = (a, true)) : DateSpec w r := by
  by_cases h : ∃ a : Int, 0 ≤ a ∧ a ≤ 99999 ∧ w = impl_DateText a
  · obtain ⟨a, q1, q2, q3⟩ := h
    exact .inl ⟨a, q1, q2, q3, h2 a q1 q2 q3⟩
  · refine .inr ⟨fun a q1 q2 q3 => h ⟨a, q1, q2, q3⟩, ?_⟩
    rcases h1 with h1 | h1
    · exact h1
    · exact absurd h1 h
theorem pad2_of {a b : UInt8} (h : allDig [a, b]) : pad2 (digV 0 [a, b]) = [a, b] := by
  have ha := h a (by simp)
  have hb := h b (by simp)
  rw [digV_cons, digV_cons, digV_nil]
  unfold pad2 u8D
  congr 1
  · rw [show (10 * (10 * 0 + (a.toNat - 48)) + (b.toNat - 48)) / 10 = a.toNat - 48 by omega]; exact u8_of ha.1 ha.2
  · congr 1
    rw [show (10 * (10 * 0 + (a.toNat - 48)) + (b.toNat - 48)) % 10 = b.toNat - 48 by omega]; exact u8_of hb.1 hb.2
theorem pad4_of {a b c e : UInt8} (h : allDig [a, b, c, e]) : pad4 (digV 0 [a, b, c, e]) = [a, b, c, e] := by
  have ha := h a (by simp)
  have hb := h b (by simp)
  have hc := h c (by simp)
  have he := h e (by simp)
  rw [digV_cons, digV_cons, digV_cons, digV_cons, digV_nil]
  unfold pad4 u8D
  congr 1
  · rw [show (10 * (10 * (10 * (10 * 0 + (a.toNat - 48)) + (b.toNat - 48)) + (c.toNat - 48)) + (e.toNat - 48)) / 1000 = a.toNat - 48 by omega]; exact u8_of ha.1 ha.2
  · congr 1
    · rw [show (10 * (10 * (10 * (10 * 0 + (a.toNat - 48)) + (b.toNat - 48)) + (c.toNat - 48)) + (e.toNat - 48)) / 100 % 10 = b.toNat - 48 by omega]; exact u8_of hb.1 hb.2
    · congr 1
      · rw [show (10 * (10 * (10 * (10 * 0 + (a.toNat - 48)) + (b.toNat - 48)) + (c.toNat - 48)) + (e.toNat - 48)) / 10 % 10 = c.toNat - 48 by omega]; exact u8_of hc.1 hc.2
      · congr 1
        rw [show (10 * (10 * (10 * (10 * 0 + (a.toNat - 48)) + (b.toNat - 48)) + (c.toNat - 48)) + (e.toNat - 48)) % 10 = e.toNat - 48 by omega]; exact u8_of he.1 he.2
theorem l03Find_val (y m d : Nat) : spec_l03Find y m d = (0, false) ∨ (∃ a : Int, spec_l03Find y m d = (a, decide (a ≤ 99999)) ∧ 0 ≤ a ∧ y ≤ 2273 ∧ m ≤ 12 ∧ d ≤ 31 ∧ DateIs a y m d) := by
  unfold spec_l03Find
  cases hg : ((!(spec_l03Year (y : Int))) || (!(spec_l00In (m : Int) 1 12))) || (!(spec_l00In (d : Int) 1 (spec_l03Days y m))) with
  | true => left; rfl
  | false =>
    right
    simp only [spec_l03Year, spec_l00In, Bool.or_eq_false_iff, Bool.not_eq_false', Bool.and_eq_true, decide_eq_true_eq] at hg
    obtain ⟨⟨⟨g1, g2⟩, g3, g4⟩, g5, g6⟩ := hg
    have hge := spec_l03Days_ge (y : Int) (m : Int)
    have hm := mdD_spec (y := (y : Int)) (m := (m : Int)) g3 g4
    have hn := l03Number_val y m d (by omega) (by omega) (by omega) (by omega) (by omega) (by omega)
    have hb := yb_nonneg (y := (y : Int)) (by omega)
    refine ⟨spec_l03Number y m d, rfl, by omega, by omega, by omega, by omega, g1, g3, g4, g5, by omega, ?_⟩
    rw [hn, Int.toNat_natCast]
theorem l03Find_of {a : Int} {y m d : Nat} (h1 : 0 ≤ a) (h2 : a ≤ 99999) (hd : DateIs a y m d) : spec_l03Find y m d = (a, true) := by
  obtain ⟨q1, q2, q3, q4, q5, q6⟩ := hd
  have hm := mdD_spec (y := (y : Int)) (m := (m : Int)) q2 q3
  have hle := mdD_le (l := leapD y) q2 q3
  have hy := year_le (y := (y : Int)) (by omega)
  have hn := l03Number_val y m d (by omega) (by omega) (by omega) (by omega) (by omega) (by omega)
  have hg : (((!(spec_l03Year (y : Int))) || (!(spec_l00In (m : Int) 1 12))) || (!(spec_l00In (d : Int) 1 (spec_l03Days y m)))) = false := by
    simp only [spec_l03Year, spec_l00In, Bool.or_eq_false_iff, Bool.not_eq_false', Bool.and_eq_true, decide_eq_true_eq]
    omega
  unfold spec_l03Find
  rw [hg, cond_false]
  rw [Int.toNat_natCast] at q6
  have e : spec_l03Number y m d = a := by omega
  rw [e]
  simp [h2]
theorem l03Read_spec (w : List UInt8) : DateSpec w (spec_l03Read w) := by
  refine DateSpec.of ?_ ?_
  · unfold spec_l03Read
    cases hg : ((((w.length : Int) != 10) || (((w.getD 4 0).toNat : Int) != 45)) || (((w.getD 7 0).toNat : Int) != 45)) with
    | true => left; rfl
    | false =>
      simp only [Bool.or_eq_false_iff, bne_eq_false_iff_eq] at hg
      obtain ⟨⟨hl, h4⟩, h7⟩ := hg
      obtain ⟨b0, b1, b2, b3, b4, b5, b6, b7, b8, b9, rfl⟩ : ∃ b0 b1 b2 b3 b4 b5 b6 b7 b8 b9, w = [b0, b1, b2, b3, b4, b5, b6, b7, b8, b9] := by
        match w, hl with
        | [b0, b1, b2, b3, b4, b5, b6, b7, b8, b9], _ => exact ⟨b0, b1, b2, b3, b4, b5, b6, b7, b8, b9, rfl⟩
      have e4 : b4 = 45 := UInt8.toNat_inj.1 (by show b4.toNat = 45; have h := h4; simp at h; omega)
      have e7 : b7 = 45 := UInt8.toNat_inj.1 (by show b7.toNat = 45; have h := h7; simp at h; omega)
      subst e4 e7
      rw [cond_false]
      have t1 : ([b0, b1, b2, b3, 45, b5, b6, 45, b8, b9] : List UInt8).take 4 = [b0, b1, b2, b3] := rfl
      have t2 : (([b0, b1, b2, b3, 45, b5, b6, 45, b8, b9] : List UInt8).take 7).drop 5 = [b5, b6] := rfl
      have t3 : (([b0, b1, b2, b3, 45, b5, b6, 45, b8, b9] : List UInt8).take ([b0, b1, b2, b3, 45, b5, b6, 45, b8, b9] : List UInt8).length).drop 8 = [b8, b9] := rfl
      rw [t1, t2, t3, l03Digits_eq _ (by simp), l03Digits_eq _ (by simp), l03Digits_eq _ (by simp)]
      by_cases d1 : allDig [b0, b1, b2, b3]
      · by_cases d2 : allDig [b5, b6]
        · by_cases d3 : allDig [b8, b9]
          · rw [if_pos d1, if_pos d2, if_pos d3]
            simp only [Bool.not_true, Bool.or_self, cond_false]
            rcases l03Find_val (digV 0 [b0, b1, b2, b3]) (digV 0 [b5, b6]) (digV 0 [b8, b9]) with h | ⟨a, h, ha, hy, hm, hd, hD⟩
            · left; rw [h]; rfl
            · rw [h]
              by_cases hle : a ≤ 99999
              · right
                refine ⟨a, ha, hle, ?_⟩
                obtain ⟨y', m', d', _, _, _, _, _, _, _, hD', e⟩ := dateText_D10 ha hle
                obtain ⟨r1, r2, r3⟩ := hD'.unique hD
                have r1 : y' = digV 0 [b0, b1, b2, b3] := by omega
                have r2 : m' = digV 0 [b5, b6] := by omega
                have r3 : d' = digV 0 [b8, b9] := by omega
                rw [e, r1, r2, r3]
                unfold D10
                rw [pad4_of d1, pad2_of d2, pad2_of d3]
                rfl
              · left; simp [hle]
          · left; rw [if_pos d1, if_pos d2, if_neg d3]; rfl
        · left; rw [if_pos d1, if_neg d2]; rfl
      · left; rw [if_neg d1]; rfl
  · rintro a h1 h2 rfl
    obtain ⟨y, m, d, _, hy1, hy2, hm1, hm2, hd1, hd2, hD, e⟩ := dateText_D10 h1 h2
    rw [e]
    unfold spec_l03Read
    have t0 : (((((D10 y m d).length : Int) != 10) || ((((D10 y m d).getD 4 0).toNat : Int) != 45)) || ((((D10 y m d).getD 7 0).toNat : Int) != 45)) = false := rfl
    have t1 : (D10 y m d).take 4 = pad4 y := rfl
    have t2 : ((D10 y m d).take 7).drop 5 = pad2 m := rfl
    have t3 : ((D10 y m d).take (D10 y m d).length).drop 8 = pad2 d := rfl
    obtain ⟨p1, p2⟩ := pad4_dig (y := y) (by omega)
    obtain ⟨p3, p4⟩ := pad2_dig (m := m) (by omega)
    obtain ⟨p5, p6⟩ := pad2_dig (m := d) (by omega)
    rw [t0, cond_false, t1, t2, t3, l03Digits_eq _ (by simp [pad4]), l03Digits_eq _ (by simp [pad2]), l03Digits_eq _ (by simp [pad2]), if_pos p1, if_pos p3, if_pos p5, p2, p4, p6]
    simp only [Bool.not_true, Bool.or_self, cond_false]
    rw [l03Find_of h1 h2 hD]
    rfl
theorem dayOf_of {a : Int} {y m d : Nat} (h1 : 0 ≤ a) (h2 : a ≤ 99999) (hd : DateIs a y m d) : impl_DayOf y m d = (a, 0) := by
  obtain ⟨q1, q2, q3, q4, q5, q6⟩ := hd
  have hle := mdD_le (l := leapD y) q2 q3
  have hy := year_le (y := (y : Int)) (by omega)
  have hm := mdD_impl (y := (y : Int)) (m := (m : Int)) q1 hy q2 q3
  have hn := dayOf_val y m d (by omega) (by omega) (by omega) (by omega) (by omega) (by omega)
  rw [Int.toNat_natCast] at q6
  have e : impl_dayOf y m d = a := by omega
  have hg : ((((!(impl_isYear (y : Int))) || (!(impl_isMonth (m : Int)))) || (!(impl_within (d : Int) 1 (impl_monthDays y m)))) || (!(impl_isDay (impl_dayOf y m d)))) = false := by
    rw [e]
    simp only [impl_isYear, impl_isMonth, impl_isDay, impl_within, Bool.or_eq_false_iff, Bool.not_eq_false', Bool.and_eq_true, decide_eq_true_eq]
    omega
  unfold impl_DayOf
  rw [hg, cond_false, e]
theorem dayOf_ok (y m d : Int) (h : (impl_DayOf y m d).2 = 0) : 0 ≤ (impl_DayOf y m d).1 ∧ (impl_DayOf y m d).1 ≤ 99999 := by
  unfold impl_DayOf at h ⊢
  cases hg : ((((!(impl_isYear y)) || (!(impl_isMonth m))) || (!(impl_within d 1 (impl_monthDays y m)))) || (!(impl_isDay (impl_dayOf y m d)))) with
  | true => rw [hg] at h; simp at h
  | false =>
    rw [cond_false]
    simp only [Bool.or_eq_false_iff, Bool.not_eq_false', impl_isDay, impl_within, Bool.and_eq_true, decide_eq_true_eq] at hg
    exact hg.2
theorem readDate_spec (w : List UInt8) (hw : w.length ≤ 1048576) : DateSpec w (impl_ReadDate w) := by
  refine DateSpec.of ?_ ?_
  · unfold impl_ReadDate
    cases hl : (((strings_Split w [45]).length : Int) != 3) with
    | true => left; rfl
    | false =>
      rw [cond_false]
      have hok := dayOf_ok ((impl_digitsOf ((strings_Split w [45]).getD 0 default)).1) ((impl_digitsOf ((strings_Split w [45]).getD 1 default)).1) ((impl_digitsOf ((strings_Split w [45]).getD 2 default)).1)
      generalize impl_DayOf ((impl_digitsOf ((strings_Split w [45]).getD 0 default)).1) ((impl_digitsOf ((strings_Split w [45]).getD 1 default)).1) ((impl_digitsOf ((strings_Split w [45]).getD 2 default)).1) = q at hok ⊢
      cases hc : (((((!((impl_digitsOf ((strings_Split w [45]).getD 0 default)).2)) || (!((impl_digitsOf ((strings_Split w [45]).getD 1 default)).2))) || (!((impl_digitsOf ((strings_Split w [45]).getD 2 default)).2))) || (q.2 != 0)) || ((impl_DateText q.1) != w)) with
      | true => left; rfl
      | false =>
        right
        rw [Bool.or_eq_false_iff, Bool.or_eq_false_iff] at hc
        obtain ⟨⟨_, hq⟩, ht⟩ := hc
        have hq : q.2 = 0 := by simpa using hq
        have ht : impl_DateText q.1 = w := by simpa using ht
        exact ⟨q.1, (hok hq).1, (hok hq).2, ht.symm⟩
  · rintro a h1 h2 rfl
    obtain ⟨y, m, d, _, hy1, hy2, hm1, hm2, hd1, hd2, hD, e⟩ := dateText_D10 h1 h2
    have e45 : ∀ l : List UInt8, allDig l → (45 : UInt8) ∉ l := fun l h hm => by have := h 45 hm; simp at this
    obtain ⟨p1, p2⟩ := pad4_dig (y := y) (by omega)
    obtain ⟨p3, p4⟩ := pad2_dig (m := m) (by omega)
    obtain ⟨p5, p6⟩ := pad2_dig (m := d) (by omega)
    have hs : strings_Split (D10 y m d) [45] = [pad4 y, pad2 m, pad2 d] := by
      unfold strings_Split D10
      show splitC 45 _ = _
      rw [splitC_cons _ _ _ (e45 _ p1), splitC_cons _ _ _ (e45 _ p3), splitC_none _ _ (e45 _ p5)]
    have hr : impl_ReadDate (D10 y m d) = (bif impl_DateText a != D10 y m d then (0, false) else (a, true)) := by
      unfold impl_ReadDate
      rw [hs]
      show (bif (((((!((impl_digitsOf (pad4 y)).2)) || (!((impl_digitsOf (pad2 m)).2))) || (!((impl_digitsOf (pad2 d)).2))) || (((impl_DayOf ((impl_digitsOf (pad4 y)).1) ((impl_digitsOf (pad2 m)).1) ((impl_digitsOf (pad2 d)).1)).2) != 0)) || ((impl_DateText ((impl_DayOf ((impl_digitsOf (pad4 y)).1) ((impl_digitsOf (pad2 m)).1) ((impl_digitsOf (pad2 d)).1)).1)) != D10 y m d)) then (0, false) else ((impl_DayOf ((impl_digitsOf (pad4 y)).1) ((impl_digitsOf (pad2 m)).1) ((impl_digitsOf (pad2 d)).1)).1, true)) = _
      rw [digitsOf_eq _ (by simp [pad4]) (by simp [pad4]), digitsOf_eq _ (by simp [pad2]) (by simp [pad2]), digitsOf_eq _ (by simp [pad2]) (by simp [pad2]), if_pos p1, if_pos p3, if_pos p5, p2, p4, p6]
      simp only
      rw [dayOf_of h1 h2 hD]
      simp
    rw [e, hr, e]
    simp
theorem date_read_eq (w : List UInt8) (hw : w.length ≤ 1048576) : impl_ReadDate w = spec_l03Read w := (readDate_spec w hw).unique (l03Read_spec w)
end Go.Ab

namespace Go.Ab
open Go Go.Proofs
theorem impl_SplitWords_DD : DOk Tryz.prog (DD [(62, dP D_strings_Split)]) := DD_cons D_strings_Split_ok.e <| DD_nil _
def impl_SplitWords_b1 (a0 : (List UInt8)) (i1 : Nat) (s1 : List (List UInt8)) : Except ((List (List UInt8))) (List (List UInt8)) :=
  (bif (((strings_Split a0 [32]).getD i1 default) != []) then .ok (s1 ++ [((strings_Split a0 [32]).getD i1 default)]) else .ok s1)
def impl_SplitWords (a0 : (List UInt8)) : (List (List UInt8)) :=
  (match loopR (impl_SplitWords_b1 a0) (((strings_Split a0 [32]).length) - 0) 0 ([] : List (List UInt8)) with | .error e => e | .ok s1 => s1)
theorem impl_SplitWords_den (a0 : (List UInt8)) (hb0 : a0.length < 1099511627776) (hp0 : a0.length ≤ 1048576) : Den Tryz.prog 28 [.str a0] (ownL 9 1 eS (impl_SplitWords a0)) := by
  generalize hR : impl_SplitWords a0 = r
  unfold impl_SplitWords at hR
  refine den_intro G_ok Tryz.func28 (by kernel_rfl) rfl Tryz.ntmps28 (by rw [Tryz.results28]) (by simp) rfl ?_
  intro c hL hc hk
  obtain ⟨hL0, _⟩ := hL
  have hw0 : a0.length < 9223372036854775808 := Nat.lt_succ_of_le hL0
  clear hL0
  simp only [pars, Nat.zero_add]
  have hs9 := strings_Split_len a0 [32] (by omega)
  refine AWP.seq ?_
  refine AWP.regS G_ok impl_SplitWords_DD hc (by kernel_rfl) (fun K hK => ?_); simp only [ea, gv, sv, D_strings_Split, reduceCtorEq, reduceIte, Nat.reduceBEq, Nat.reduceAdd, Nat.reduceEqDiff, Nat.reduceLT, Nat.reduceLeDiff, Nat.reduceMul, Nat.reduceSub, BEq.rfl, beq_self_eq_true, Int.reduceToNat]
  (refine hK _ ?_)
  clear hK K
  refine AWP.seq ?_
  refine AWP.regS G_ok impl_SplitWords_DD hc (by kernel_rfl) (fun K hK => ?_); simp only [ea, gv, sv, D_strings_Split, reduceCtorEq, reduceIte, Nat.reduceBEq, Nat.reduceAdd, Nat.reduceEqDiff, Nat.reduceLT, Nat.reduceLeDiff, Nat.reduceMul, Nat.reduceSub, BEq.rfl, beq_self_eq_true, Int.reduceToNat]
  (refine hK _ ?_)
  clear hK K
  refine AWP.seq ?_
  refine AWP.seq ?_
  refine AWP.regS G_ok impl_SplitWords_DD hc (by kernel_rfl) (fun K hK => ?_); simp only [ea, gv, sv, D_strings_Split, reduceCtorEq, reduceIte, Nat.reduceBEq, Nat.reduceAdd, Nat.reduceEqDiff, Nat.reduceLT, Nat.reduceLeDiff, Nat.reduceMul, Nat.reduceSub, BEq.rfl, beq_self_eq_true, Int.reduceToNat]
  (refine ⟨by (trivial), hK _ ?_⟩)
  clear hK K
  refine AWP.block ?_
  generalize hz1 : loopR (impl_SplitWords_b1 a0) (((strings_Split a0 [32]).length) - 0) 0 ([] : List (List UInt8)) = z1 at hR
  refine AWP.range (impl_SplitWords_b1 a0) (fun i1 s1 => ⟨[(3, .ref 0 1 0 s1.length), (8, .ref 1 1 0 ((strings_Split a0 [32]).length)), (9, .int .i64 ((strings_Split a0 [32]).length : Int)), (10, .int .i64 (i1 : Int))], [.arr 9 1 s1.length (fun j => eS (s1.getD j default)), .arr 9 1 (strings_Split a0 [32]).length (fun j => eS ((strings_Split a0 [32]).getD j default))]⟩) (fun i1 s1 => s1.length ≤ ([] : List (List UInt8)).length + 1 * i1 ∧ s1.length ≤ i1) (((strings_Split a0 [32]).length)) 0 ([] : List (List UInt8)) [0, 1] hz1 (by (omega)) (by (trivial)) (by (simp only [si, ea, gv, sv, hk, reduceCtorEq, reduceIte, Nat.reduceBEq, Nat.reduceAdd, Nat.reduceEqDiff, Nat.reduceLT, Nat.reduceLeDiff, Nat.reduceMul, Nat.reduceSub, BEq.rfl, beq_self_eq_true, Int.reduceToNat]; trivial)) ?_
  clear hz1
  intro i1 s1 hi1 hW1 hz1
  refine AWP.seq ?_
  refine AWP.regS G_ok impl_SplitWords_DD hc (by kernel_rfl) (fun K hK => ?_); simp only [ea, gv, sv, D_strings_Split, reduceCtorEq, reduceIte, Nat.reduceBEq, Nat.reduceAdd, Nat.reduceEqDiff, Nat.reduceLT, Nat.reduceLeDiff, Nat.reduceMul, Nat.reduceSub, BEq.rfl, beq_self_eq_true, Int.reduceToNat]
  (refine hK _ ?_)
  clear hK K
  refine AWP.seq ?_
  refine AWP.cond rfl (fun hb => ?_) (fun hb => ?_)
  · have hlt1 : i1 < ((strings_Split a0 [32]).length) := by ((simp only [ob, ln, bdv, sv] at *; omega))
    rw [loopR_lt hlt1] at hz1; simp only [impl_SplitWords_b1] at hz1
    refine AWP.skip ?_
    refine AWP.seq ?_
    refine AWP.block ?_
    refine AWP.seq ?_
    refine AWP.regS G_ok impl_SplitWords_DD hc (by kernel_rfl) (fun K hK => ?_); simp only [ea, gv, sv, D_strings_Split, reduceCtorEq, reduceIte, Nat.reduceBEq, Nat.reduceAdd, Nat.reduceEqDiff, Nat.reduceLT, Nat.reduceLeDiff, Nat.reduceMul, Nat.reduceSub, BEq.rfl, beq_self_eq_true, Int.reduceToNat]
    (refine ⟨by (omega), hK _ ?_⟩)
    clear hK K
    refine AWP.seq ?_
    refine AWP.regS G_ok impl_SplitWords_DD hc (by kernel_rfl) (fun K hK => ?_); simp only [ea, gv, sv, D_strings_Split, reduceCtorEq, reduceIte, Nat.reduceBEq, Nat.reduceAdd, Nat.reduceEqDiff, Nat.reduceLT, Nat.reduceLeDiff, Nat.reduceMul, Nat.reduceSub, BEq.rfl, beq_self_eq_true, Int.reduceToNat]
    (refine hK _ ?_)
    clear hK K
    refine AWP.cond rfl (fun hb => ?_) (fun hb => ?_)
    · (simp only [hb, cond_true] at hz1)
      refine AWP.regS G_ok impl_SplitWords_DD hc (by kernel_rfl) (fun K hK => ?_); simp only [ea, gv, sv, D_strings_Split, reduceCtorEq, reduceIte, Nat.reduceBEq, Nat.reduceAdd, Nat.reduceEqDiff, Nat.reduceLT, Nat.reduceLeDiff, Nat.reduceMul, Nat.reduceSub, BEq.rfl, beq_self_eq_true, Int.reduceToNat]
      (refine ⟨by (omega), hK _ ?_⟩)
      clear hK K
      refine AWP.regS G_ok impl_SplitWords_DD hc (by kernel_rfl) (fun K hK => ?_); simp only [ea, gv, sv, D_strings_Split, reduceCtorEq, reduceIte, Nat.reduceBEq, Nat.reduceAdd, Nat.reduceEqDiff, Nat.reduceLT, Nat.reduceLeDiff, Nat.reduceMul, Nat.reduceSub, BEq.rfl, beq_self_eq_true, Int.reduceToNat]
      (refine hK _ ?_)
      clear hK K
      exact ⟨_, [3, 1], hlt1, by ((and_intros <;> simp only [ln] <;> omega)), hz1, by (simp only [si, ea, gv, sv, hk, reduceCtorEq, reduceIte, Nat.reduceBEq, Nat.reduceAdd, Nat.reduceEqDiff, Nat.reduceLT, Nat.reduceLeDiff, Nat.reduceMul, Nat.reduceSub, BEq.rfl, beq_self_eq_true, Int.reduceToNat]; (and_intros <;> first | trivial | (rw [IntKind.wrap_i64]; omega) | (simp only [ln]; done) | (intro j hj; simp only [pw, Bool.cond_eq_ite, Bool.and_eq_true, decide_eq_true_eq]; (try rw [subL_getD _ _ _ _ (by assumption)]); (try rw [clearL_getD _ _ _ _ (by omega)]); (repeat' split) <;> first | rfl | omega)))⟩
    · (simp only [hb, cond_false] at hz1)
      refine AWP.skip ?_
      refine AWP.regS G_ok impl_SplitWords_DD hc (by kernel_rfl) (fun K hK => ?_); simp only [ea, gv, sv, D_strings_Split, reduceCtorEq, reduceIte, Nat.reduceBEq, Nat.reduceAdd, Nat.reduceEqDiff, Nat.reduceLT, Nat.reduceLeDiff, Nat.reduceMul, Nat.reduceSub, BEq.rfl, beq_self_eq_true, Int.reduceToNat]
      (refine hK _ ?_)
      clear hK K
      exact ⟨_, [0, 1], hlt1, by ((and_intros <;> simp only [ob, ln] at * <;> omega)), hz1, by (simp only [si, ea, gv, sv, hk, reduceCtorEq, reduceIte, Nat.reduceBEq, Nat.reduceAdd, Nat.reduceEqDiff, Nat.reduceLT, Nat.reduceLeDiff, Nat.reduceMul, Nat.reduceSub, BEq.rfl, beq_self_eq_true, Int.reduceToNat]; (and_intros <;> first | trivial | (rw [IntKind.wrap_i64]; omega)))⟩
  · obtain rfl : i1 = ((strings_Split a0 [32]).length) := by ((simp only [ob, ln, bdv, sv] at *; omega))
    rw [loopR_ge (Nat.le_refl _)] at hz1; subst hz1; dsimp only at hR
    refine AWP.exit ?_; refine exitTo_here ?_
    refine AWP.seq ?_
    refine AWP.regS G_ok impl_SplitWords_DD hc (by kernel_rfl) (fun K hK => ?_); simp only [ea, gv, sv, D_strings_Split, reduceCtorEq, reduceIte, Nat.reduceBEq, Nat.reduceAdd, Nat.reduceEqDiff, Nat.reduceLT, Nat.reduceLeDiff, Nat.reduceMul, Nat.reduceSub, BEq.rfl, beq_self_eq_true, Int.reduceToNat]
    (refine hK _ ?_)
    clear hK K
    refine AWP.ret ?_
    subst hR
    (simp only [en, si, ea, gv, sv, hk, reduceCtorEq, reduceIte, Nat.reduceBEq, Nat.reduceAdd, Nat.reduceEqDiff, Nat.reduceLT, Nat.reduceLeDiff, Nat.reduceMul, Nat.reduceSub, BEq.rfl, beq_self_eq_true, Int.reduceToNat]; (and_intros <;> omega))
def D_impl_SplitWords : DF
  | [x0] => some (ownL 9 1 eS (impl_SplitWords (rdS x0)), false, [wS x0, (rdS x0).length < 1099511627776, (rdS x0).length ≤ 1048576])
  | _ => none
def Dz_impl_SplitWords : DF
  | [x0] => some (ownL 9 1 eS (impl_SplitWords (rdS x0)), true, [wS x0, (rdS x0).length < 1099511627776, (rdS x0).length ≤ 1048576])
  | _ => none
theorem D_impl_SplitWords_ok : OkD Tryz.prog 28 D_impl_SplitWords := by
  intro xs r z ob h ho
  unfold D_impl_SplitWords at h
  split at h
  · simp only [Option.some.injEq, Prod.mk.injEq] at h
    obtain ⟨rfl, rfl, rfl⟩ := h
    obtain ⟨h0, hb0, hp0, _⟩ := ho
    exact Den.sim (impl_SplitWords_den _ hb0 hp0) (simOL_cons (wS_sim h0).1 <| trivial) (noIdL_cons (wS_sim h0).2 <| rfl) rfl
  · cases h
theorem Dz_impl_SplitWords_ok : OkD Tryz.prog 28 Dz_impl_SplitWords := by
  intro xs r z ob h ho
  unfold Dz_impl_SplitWords at h
  split at h
  · simp only [Option.some.injEq, Prod.mk.injEq] at h
    obtain ⟨rfl, rfl, rfl⟩ := h
    obtain ⟨h0, hb0, hp0, _⟩ := ho
    exact Den.sim (impl_SplitWords_den _ hb0 hp0) (simOL_cons (wS_sim h0).1 <| trivial) (noIdL_cons (wS_sim h0).2 <| rfl) rfl
  · cases h
end Go.Ab

namespace Go.Ab
open Go Go.Proofs
theorem splitWords_loop (l : List (List UInt8)) (b : Nat → List (List UInt8) → Except (List (List UInt8)) (List (List UInt8))) (hb : ∀ i s, b i s = (bif (l.getD i default) != [] then .ok (s ++ [l.getD i default]) else .ok s)) :
    ∀ (k i : Nat) (s : List (List UInt8)), i + k = l.length → loopR b k i s = .ok (s ++ (l.drop i).filter (· != []))
  | 0, i, s, h => by
    rw [List.drop_eq_nil_of_le (by omega)]
    simp [loopR]
  | k + 1, i, s, h => by
    have hlt : i < l.length := by omega
    have hg : l.getD i default = l[i] := by simp [List.getD, List.getElem?_eq_getElem hlt]
    simp only [loopR, hb, hg]
    rw [List.drop_eq_getElem_cons hlt, List.filter_cons]
    cases hc : (l[i] != []) with
    | true =>
      simp only [cond_true]
      rw [splitWords_loop l b hb k (i + 1) _ (by omega)]
      simp
    | false =>
      simp only [cond_false]
      rw [splitWords_loop l b hb k (i + 1) _ (by omega)]
      simp
theorem impl_SplitWords_eq (a : List UInt8) : impl_SplitWords a = (splitC 32 a).filter (· != []) := by
  unfold impl_SplitWords
  rw [splitWords_loop (strings_Split a [32]) (impl_SplitWords_b1 a) (fun i s => rfl) _ 0 [] (by omega)]
  rfl
theorem impl_SplitWords_len (a : List UInt8) (ha : a.length ≤ 1048576) : ∀ x ∈ impl_SplitWords a, x.length ≤ 1048576 := by
  intro x hx
  rw [impl_SplitWords_eq] at hx
  have := (splitC_len 32 a).2 x (List.mem_filter.1 hx).1
  omega
theorem getD_len {l : List (List UInt8)} (h : ∀ x ∈ l, x.length ≤ 1048576) (i : Nat) : (l.getD i default).length ≤ 1048576 := by
  by_cases hi : i < l.length
  · rw [List.getD_eq_getElem?_getD, List.getElem?_eq_getElem hi]
    exact h _ (List.getElem_mem hi)
  · rw [List.getD_eq_getElem?_getD, List.getElem?_eq_none (by omega)]
    show ([] : List UInt8).length ≤ _
    simp
end Go.Ab

namespace Go.Ab
open Go Go.Proofs
def spec_l01Split_b1 (a0 : (List UInt8)) (a1 : Int) (i1 : Nat) (s1 : Int × List (List UInt8)) : Except ((List (List UInt8))) (Int × List (List UInt8)) :=
  (bif (((a0.getD i1 0).toNat : Int) == a1) then .ok (IntKind.wrap .i64 ((i1 : Int) + 1), s1.2 ++ [(a0.take i1).drop ((s1.1).toNat)]) else .ok (s1.1, s1.2))
def spec_l01Split (a0 : (List UInt8)) (a1 : Int) : (List (List UInt8)) :=
  (match loopR (spec_l01Split_b1 a0 a1) (a0.length - 0) 0 (0, ([] : List (List UInt8))) with | .error e => e | .ok s1 => s1.2 ++ [(a0.take a0.length).drop ((s1.1).toNat)])
def Dz_spec_l01Split : DF
  | [x0, x1] => some (ownL 9 1 eS (spec_l01Split (rdS x0) (rdI x1)), true, [wS x0, wI .u8 x1, (rdS x0).length < 1099511627776, (rdS x0).length ≤ 1048576])
  | _ => none
end Go.Ab

namespace Go.Ab
open Go Go.Proofs
end Go.Ab

namespace Go.Ab
open Go Go.Proofs
theorem loopF_iff {b : Nat → Unit → Except Bool Unit} {n : Nat} {p : Nat → Bool} {x : Bool} (hb : ∀ j u, j < n → b j u = bif p j then .error false else .ok ()) :
    ((match loopR b (n - 0) 0 () with | .error e => e | .ok _ => x) = true) ↔ (∀ j, j < n → p j = false) ∧ x = true := by
  rw [loopR_any (b := b) p false (fun j u _ h => hb j u (by omega))]
  simp only [Nat.sub_zero, Nat.zero_add]
  cases h : (List.range n).any (fun j => p j) with
  | true =>
    simp only [cond_true]
    obtain ⟨j, h1, h2⟩ := List.any_eq_true.1 h
    constructor
    · intro h; cases h
    · rintro ⟨h3, _⟩; rw [h3 j (List.mem_range.1 h1)] at h2; cases h2
  | false =>
    simp only [cond_false]
    rw [List.any_eq_false] at h
    exact ⟨fun hx => ⟨fun j hj => by simpa using h j (List.mem_range.2 hj), hx⟩, fun hx => hx.2⟩
theorem isName_iff (a : List UInt8) : impl_IsName a = true ↔ a ≠ [] ∧ a.length ≤ 10 ∧ ∀ j, j < a.length → ((97 ≤ (a.getD j 0).toNat ∧ (a.getD j 0).toNat ≤ 122) ∨ (j ≠ 0 ∧ 48 ≤ (a.getD j 0).toNat ∧ (a.getD j 0).toNat ≤ 57)) := by
  unfold impl_IsName
  refine (loopF_iff (n := a.length) (p := fun j => _) (fun j u _ => by rfl)).trans ?_
  simp only [impl_few, impl_isDigit, Bool.and_eq_true, bne_iff_ne, decide_eq_true_eq]
  constructor
  · rintro ⟨h1, h2, h3⟩
    refine ⟨h2, by omega, fun j hj => ?_⟩
    have := h1 j hj
    simp [-List.getD_eq_getElem?_getD] at this
    omega
  · rintro ⟨h2, h3, h1⟩
    refine ⟨fun j hj => ?_, h2, by omega⟩
    have := h1 j hj
    simp [-List.getD_eq_getElem?_getD]
    omega
theorem l01Name_iff (a : List UInt8) : spec_l01Name a = true ↔ a ≠ [] ∧ a.length ≤ 10 ∧ ∀ j, j < a.length → ((97 ≤ (a.getD j 0).toNat ∧ (a.getD j 0).toNat ≤ 122) ∨ (j ≠ 0 ∧ 48 ≤ (a.getD j 0).toNat ∧ (a.getD j 0).toNat ≤ 57)) := by
  unfold spec_l01Name
  by_cases hn : a = []
  · subst hn; simp
  by_cases h10 : 10 < a.length
  · have : ((a == []) || decide (10 < (a.length : Int))) = true := by simp; right; omega
    rw [this]; simp; omega
  have hp : 0 < a.length := by cases a <;> simp_all
  have : ((a == []) || decide (10 < (a.length : Int))) = false := by simp; exact ⟨hn, by omega⟩
  rw [this]
  by_cases hs : spec_l01Small ((a.getD 0 0).toNat : Int) = true
  · rw [hs]
    refine (loopF_iff (n := a.length) (p := fun j => _) (fun j u _ => by rfl)).trans ?_
    simp only [spec_l01Small, Bool.and_eq_true, decide_eq_true_eq] at hs
    constructor
    · rintro ⟨h1, _⟩
      refine ⟨hn, by omega, fun j hj => ?_⟩
      have := h1 j hj
      simp [spec_l01Small, spec_l01Digit, -List.getD_eq_getElem?_getD] at this
      by_cases hj0 : j = 0
      · subst hj0; omega
      · omega
    · rintro ⟨_, _, h1⟩
      refine ⟨fun j hj => ?_, rfl⟩
      have := h1 j hj
      simp [spec_l01Small, spec_l01Digit, -List.getD_eq_getElem?_getD]
      omega
  · have hs' : spec_l01Small ((a.getD 0 0).toNat : Int) = false := by simpa using hs
    rw [hs']
    simp only [Bool.not_false, Bool.or_true, cond_true]
    constructor
    · intro h; cases h
    · rintro ⟨_, _, h1⟩
      have := h1 0 hp
      exfalso
      apply hs
      simp [spec_l01Small, -List.getD_eq_getElem?_getD]
      simp [-List.getD_eq_getElem?_getD] at this
      omega
theorem name_eq (a : List UInt8) : impl_IsName a = spec_l01Name a := Bool.eq_iff_iff.2 ((isName_iff a).trans (l01Name_iff a).symm)
end Go.Ab

namespace Go.Ab
open Go Go.Proofs
theorem spec_l29Entry_rng (e : Entry) (h : spec_l29Entry e = true) : 0 ≤ e.Day ∧ e.Day ≤ 99999 ∧ -1000 ≤ e.Amount ∧ e.Amount ≤ 1000 := by
  simp only [spec_l29Entry, spec_l03Day, spec_l00In, Bool.and_eq_true, decide_eq_true_eq] at h
  omega
end Go.Ab

namespace Go.Ab
open Go Go.Proofs
theorem impl_isEntry_rng (e : Entry) (h : impl_isEntry e = true) : 0 ≤ e.Day ∧ e.Day ≤ 99999 ∧ -1000 ≤ e.Amount ∧ e.Amount ≤ 1000 := by
  simp only [impl_isEntry, impl_isDay, impl_within, Bool.and_eq_true, decide_eq_true_eq] at h
  omega
end Go.Ab

namespace Go.Ab
open Go Go.Proofs
theorem impl_EntryText_DD : DOk Tryz.prog (DD [(31, dP D_impl_isEntry), (32, dP D_impl_DateText), (33, dP D_impl_Decimal)]) := DD_cons D_impl_isEntry_ok.e <| DD_cons D_impl_DateText_ok.e <| DD_cons D_impl_Decimal_ok.e <| DD_nil _
def impl_EntryText (a0 : Entry) : (List UInt8) :=
  (bif (!(impl_isEntry a0)) then [] else ((((impl_DateText a0.Day) ++ [32]) ++ a0.Item) ++ [32]) ++ (impl_Decimal a0.Amount))
theorem impl_EntryText_den (a0 : Entry) (hb0 : bdEntry a0) : Den Tryz.prog 12 [.agg (eEntry a0)] (.str (impl_EntryText a0)) := by
  generalize hR : impl_EntryText a0 = r
  unfold impl_EntryText at hR
  refine den_intro G_ok Tryz.func12 (by kernel_rfl) rfl Tryz.ntmps12 (by rw [Tryz.results12]) (by simp) rfl ?_
  intro c hL hc hk
  obtain ⟨hL0, _⟩ := hL
  have hw0 : bwEntry a0 := Entry_lens a0 hL0
  clear hL0
  simp only [pars, Nat.zero_add]
  refine AWP.seq ?_
  refine AWP.regS G_ok impl_EntryText_DD hc (by kernel_rfl) (fun K hK => ?_); simp only [ea, gv, sv, D_impl_isEntry, D_impl_DateText, D_impl_Decimal, reduceCtorEq, reduceIte, Nat.reduceBEq, Nat.reduceAdd, Nat.reduceEqDiff, Nat.reduceLT, Nat.reduceLeDiff, Nat.reduceMul, Nat.reduceSub, BEq.rfl, beq_self_eq_true, Int.reduceToNat]
  (refine hK _ ?_)
  clear hK K
  refine AWP.seq ?_
  refine AWP.seq ?_
  refine AWP.regS G_ok impl_EntryText_DD hc (by kernel_rfl) (fun K hK => ?_); simp only [ea, gv, sv, D_impl_isEntry, D_impl_DateText, D_impl_Decimal, reduceCtorEq, reduceIte, Nat.reduceBEq, Nat.reduceAdd, Nat.reduceEqDiff, Nat.reduceLT, Nat.reduceLeDiff, Nat.reduceMul, Nat.reduceSub, BEq.rfl, beq_self_eq_true, Int.reduceToNat]
  (refine hK _ ?_)
  clear hK K
  refine AWP.cond rfl (fun hb => ?_) (fun hb => ?_)
  · (simp only [hb, cond_true] at hR)
    refine AWP.seq ?_
    refine AWP.regS G_ok impl_EntryText_DD hc (by kernel_rfl) (fun K hK => ?_); simp only [ea, gv, sv, D_impl_isEntry, D_impl_DateText, D_impl_Decimal, reduceCtorEq, reduceIte, Nat.reduceBEq, Nat.reduceAdd, Nat.reduceEqDiff, Nat.reduceLT, Nat.reduceLeDiff, Nat.reduceMul, Nat.reduceSub, BEq.rfl, beq_self_eq_true, Int.reduceToNat]
    (refine hK _ ?_)
    clear hK K
    refine AWP.ret ?_
    subst hR
    (simp only [en, si, ea, gv, sv, hk, reduceCtorEq, reduceIte, Nat.reduceBEq, Nat.reduceAdd, Nat.reduceEqDiff, Nat.reduceLT, Nat.reduceLeDiff, Nat.reduceMul, Nat.reduceSub, BEq.rfl, beq_self_eq_true, Int.reduceToNat]; done)
  · (simp only [hb, cond_false] at hR)
    refine AWP.skip ?_
    refine AWP.seq ?_
    refine AWP.regD mixed G_ok impl_EntryText_DD hc 11 (by kernel_rfl) (by kernel_rfl) (fun K hK => ?_); simp only [ea, gv, sv, D_impl_isEntry, D_impl_DateText, D_impl_Decimal, reduceCtorEq, reduceIte, Nat.reduceBEq, Nat.reduceAdd, Nat.reduceEqDiff, Nat.reduceLT, Nat.reduceLeDiff, Nat.reduceMul, Nat.reduceSub, BEq.rfl, beq_self_eq_true, Int.reduceToNat]
    (refine ⟨by ((have hb7 : a0.Item.length < 1099511627776 := (by have hb6 := hb0; simp only [bdv] at hb6; omega); have h9 := impl_isEntry_rng a0 (by simpa using hb); have l1 := impl_DateText_len a0.Day; have l2 := impl_Decimal_len a0.Amount; (try simp only [List.length_append, List.length_cons, List.length_nil]); omega)), hK _ ?_⟩)
    clear hK K
    refine AWP.ret ?_
    subst hR
    (simp only [en, si, ea, gv, sv, hk, reduceCtorEq, reduceIte, Nat.reduceBEq, Nat.reduceAdd, Nat.reduceEqDiff, Nat.reduceLT, Nat.reduceLeDiff, Nat.reduceMul, Nat.reduceSub, BEq.rfl, beq_self_eq_true, Int.reduceToNat]; done)
def D_impl_EntryText : DF
  | [x0] => some (.str (impl_EntryText (rdG dEntry x0)), false, [wG eEntry dEntry x0, bdEntry (rdG dEntry x0)])
  | _ => none
theorem D_impl_EntryText_ok : OkD Tryz.prog 12 D_impl_EntryText := by
  intro xs r z ob h ho
  unfold D_impl_EntryText at h
  split at h
  · simp only [Option.some.injEq, Prod.mk.injEq] at h
    obtain ⟨rfl, rfl, rfl⟩ := h
    obtain ⟨h0, hb0, _⟩ := ho
    exact Den.sim (impl_EntryText_den _ hb0) (simOL_cons (wG_sim h0).1 <| trivial) (noIdL_cons (wG_sim h0).2 <| rfl) rfl
  · cases h
end Go.Ab

namespace Go.Ab
open Go Go.Proofs
theorem impl_ReadDecimal_DD : DOk Tryz.prog (DD []) := DD_nil _
def impl_ReadDecimal (a0 : (List UInt8)) : (Int × Bool) := readDecL a0
theorem impl_ReadDecimal_den (a0 : (List UInt8)) (hp0 : a0.length ≤ 1048576) : Den Tryz.prog 30 [.str a0] (.tup [.int .i64 ((impl_ReadDecimal a0).1), .bool ((impl_ReadDecimal a0).2)]) := by
  exact readDec_den a0 hp0
def D_impl_ReadDecimal : DF
  | [x0] => some (.tup [.int .i64 ((impl_ReadDecimal (rdS x0)).1), .bool ((impl_ReadDecimal (rdS x0)).2)], false, [wS x0, (rdS x0).length ≤ 1048576])
  | _ => none
theorem D_impl_ReadDecimal_ok : OkD Tryz.prog 30 D_impl_ReadDecimal := by
  intro xs r z ob h ho
  unfold D_impl_ReadDecimal at h
  split at h
  · simp only [Option.some.injEq, Prod.mk.injEq] at h
    obtain ⟨rfl, rfl, rfl⟩ := h
    obtain ⟨h0, hp0, _⟩ := ho
    exact Den.sim (impl_ReadDecimal_den _ hp0) (simOL_cons (wS_sim h0).1 <| trivial) (noIdL_cons (wS_sim h0).2 <| rfl) rfl
  · cases h
end Go.Ab
