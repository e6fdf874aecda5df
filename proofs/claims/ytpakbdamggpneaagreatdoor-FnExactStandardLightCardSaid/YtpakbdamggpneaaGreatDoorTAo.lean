/- A part of a proof: walks of functions and lemmas of our own. No conditions. -/
import Derived.Test.YtpakbdamggpneaaGreatDoorTAn
import Derived.Test.YtpakbdamggpneaaGreatDoorTAl
import Derived.Shelf.Strings.Prefix
import Derived.Shelf.Strings.Search3
import Derived.Shelf.Strings.Cut
import Derived.Shelf.Strings.Builder1
import Derived.Shelf.Strings.Builder2
import Derived.Shelf.Strings.OnBuilder
import Derived.Shelf.Small.Strs
import Derived.Shelf.Small.Wraps
import Derived.Shelf.Strings.BuilderF
import Derived.Shelf.Utf8.RuneCount
import Derived.Shelf.Strconv.Itoa0
import Derived.Shelf.Strconv.Itoa1
import Derived.Shelf.LaysM
import Derived.Shelf.Strconv.Itoa2
import Derived.Shelf.Strconv.Itoa3
import Derived.Shelf.Strconv.Itoa4
import Derived.Shelf.Strconv.ParseIntEmpty
import Derived.Shelf.Strconv.Clone
import Derived.Shelf.Strconv.SyntaxError
import Derived.Shelf.LaysC
import Derived.Shelf.Strconv.ToError
import Derived.Shelf.Strconv.Lower
import Derived.Shelf.Strconv.ParseUint10
import Derived.Shelf.Strconv.ParseUint10Empty
import Derived.Shelf.Strconv.ParseUint10Any
import Derived.Shelf.Strconv.ParseInt10
import Derived.Shelf.Strconv.RangeError
import Derived.Shelf.Strconv.ToErrorRange
import Derived.Shelf.Strconv.ParseUintEmpty
import Derived.Shelf.Strconv.ParseUint10b64
import Derived.Shelf.Strconv.ParseUint10b32
import Derived.Shelf.Strconv.ParseUint10b16
import Derived.Shelf.Strconv.ParseUint10b8
import Derived.Shelf.Strconv.ParseUint10At
import Derived.Shelf.Strconv.ParseInt10At64
import Derived.Shelf.Strconv.ParseInt10At32
import Derived.Shelf.Strconv.ParseInt10At16
import Derived.Shelf.Strconv.ParseInt10At8
import Derived.Shelf.Strconv.ParseInt10All
import Derived.Shelf.Strconv.ParseIntPublic10
import Derived.Shelf.Strconv.ErrVarParseInt
import Derived.Shelf.Strings.Search1
import Derived.Shelf.Strings.Search2
import Derived.Shelf.Strings.Count
import Derived.Shelf.Strings.Shaped
import Derived.Shelf.Strings.Split
import Derived.Shelf.Strings.SplitShaped
import Derived.Shelf.Unicode.Decode
import Derived.Shelf.Strings.RuneCount
import Derived.Shelf.Strings.Explode
import Derived.Shelf.Bits.Mul64
import Derived.Shelf.Strings.Repeat
import Derived.Shelf.Unicode.DecodeSlow
import Derived.Shelf.Unicode.DecodeAny
import Derived.Test.YtpakbdamggpneaaGreatDoorProg
import Derived.Test.YtpakbdamggpneaaGreatDoorTAm
import Derived.Test.YtpakbdamggpneaaGreatDoorTAi
set_option linter.unusedSectionVars false
set_option linter.unusedVariables false
set_option linter.unusedSimpArgs false
set_option maxHeartbeats 1000000
namespace Go.Ab
open Go Go.Proofs
theorem trimSuffix_len (a b : List UInt8) : (Go.Lib.trimSuffix a b).length ≤ a.length := by
  unfold Go.Lib.trimSuffix
  split
  · simp
  · omega
theorem cut_len (a b : List UInt8) : (Go.Lib.cut a b).1.length ≤ a.length ∧ (Go.Lib.cut a b).2.1.length ≤ a.length := by
  unfold Go.Lib.cut
  split
  · simp only [List.length_take, List.length_drop]; omega
  · simp
theorem indexByte_rng (a : List UInt8) (c : UInt8) : -1 ≤ Go.Lib.indexByte a c ∧ Go.Lib.indexByte a c < a.length := by
  induction a with
  | nil => simp [Go.Lib.indexByte]
  | cons b l ih =>
    simp only [Go.Lib.indexByte, List.length_cons]
    split
    · omega
    · split <;> omega
theorem grow_drew (w : World) (k : Nat) : Grow w (w.drewN k) := ⟨rfl, rfl, rfl, Nat.le_refl _, fun _ _ => rfl⟩
theorem rep_two {w : World} {M : Nat → Prop} {μ : Map} {x y : AV} {u v : Value} (h1 : Rep w M x μ u []) (h2 : Rep w M y μ v []) : Rep w M (.tup [x, y]) μ (.tuple #[u, v]) [] := by
  simp only [Rep, RepL]
  exact ⟨[u, v], rfl, u, [v], [], [], rfl, rfl, h1, v, [], [], [], rfl, rfl, h2, rfl, rfl⟩
theorem rep_three {w : World} {M : Nat → Prop} {μ : Map} {x y z : AV} {u v t : Value} (h1 : Rep w M x μ u []) (h2 : Rep w M y μ v []) (h3 : Rep w M z μ t []) : Rep w M (.tup [x, y, z]) μ (.tuple #[u, v, t]) [] := by
  simp only [Rep, RepL]
  exact ⟨[u, v, t], rfl, u, [v, t], [], [], rfl, rfl, h1, v, [t], [], [], rfl, rfl, h2, t, [], [], [], rfl, rfl, h3, rfl, rfl⟩
end Go.Ab

namespace Go.Proofs
open Go.Shelf
def Tryz.lays156_ren : Go.Shelf.Ren := ⟨fun | 156 => 142 | 165 => 161 | 166 => 162 | 169 => 164 | 240 => 195 | 241 => 196 | 276 => 213 | 277 => 214 | n => n, fun | 31 => 57 | 9 => 9 | 3 => 3 | 4 => 4 | 0 => 0 | 20 => 20 | 72 => 158 | 76 => 160 | 70 => 156 | 37 => 22 | 75 => 88 | 127 => 185 | 164 => 198 | 5 => 5 | 80 => 114 | n => n, fun | n => n⟩
theorem Tryz.lays156 : Go.Proofs.Lays.n156 Tryz.prog Tryz.lays156_ren := {
  mixed := by kernel_rfl
  f156 := Tryz.func142.trans (congrArg some (by kernel_rfl))
  f165 := Tryz.func161.trans (congrArg some (by kernel_rfl))
  f166 := Tryz.func162.trans (congrArg some (by kernel_rfl))
  f169 := Tryz.func164.trans (congrArg some (by kernel_rfl))
  f240 := Tryz.func195.trans (congrArg some (by kernel_rfl))
  f241 := Tryz.func196.trans (congrArg some (by kernel_rfl))
  f276 := Tryz.func213.trans (congrArg some (by kernel_rfl))
  f277 := Tryz.func214.trans (congrArg some (by kernel_rfl))
  t0 := Tryz.underlying0
  a0 := Tryz.isAgg0
  z0 := Tryz.sizeOf0
  v0 := Tryz.zeroValue0
  t3 := Tryz.underlying3
  a3 := Tryz.isAgg3
  z3 := Tryz.sizeOf3
  v3 := Tryz.zeroValue3
  t4 := Tryz.underlying4
  a4 := Tryz.isAgg4
  z4 := Tryz.sizeOf4
  v4 := Tryz.zeroValue4
  t9 := Tryz.underlying9
  a9 := Tryz.isAgg9
  z9 := Tryz.sizeOf9
  v9 := Tryz.zeroValue9
  t20 := Tryz.underlying20
  a20 := Tryz.isAgg20
  z20 := Tryz.sizeOf20
  v20 := Tryz.zeroValue20
  t31 := Tryz.underlying57
  a31 := Tryz.isAgg57
  z31 := Tryz.sizeOf57
  v31 := Tryz.zeroValue57
  t37 := Tryz.underlying22
  a37 := Tryz.isAgg22
  z37 := Tryz.sizeOf22
  v37 := Tryz.zeroValue22
  t70 := Tryz.underlying156
  a70 := Tryz.isAgg156
  z70 := Tryz.sizeOf156
  v70 := Tryz.zeroValue156
  t72 := Tryz.underlying158
  a72 := Tryz.isAgg158
  z72 := Tryz.sizeOf158
  v72 := Tryz.zeroValue158
  t75 := Tryz.underlying88
  a75 := Tryz.isAgg88
  z75 := Tryz.sizeOf88
  v75 := Tryz.zeroValue88
  t76 := Tryz.underlying160
  a76 := Tryz.isAgg160
  z76 := Tryz.sizeOf160
  v76 := Tryz.zeroValue160
  t127 := Tryz.underlying185
  a127 := Tryz.isAgg185
  z127 := Tryz.sizeOf185
  v127 := Tryz.zeroValue185
  t164 := Tryz.underlying198
  a164 := Tryz.isAgg198
  z164 := Tryz.sizeOf198
  v164 := Tryz.zeroValue198 }
theorem Tryz.Builder_Extra_156 : Builder.Extra Tryz.prog Tryz.lays156_ren := {
  sizeBuilder := by kernel_rfl
  liesBuilder := by kernel_rfl
  t5 := Tryz.underlying5
  a5 := Tryz.isAgg5
  z5 := Tryz.sizeOf5
  v5 := Tryz.zeroValue5
  infoByte := by kernel_rfl
  cellsByte := by kernel_rfl
  sizeByte := by kernel_rfl
  neB5 := by decide }
def Tryz.lays137_ren : Go.Shelf.Ren := ⟨fun | 137 => 134 | 217 => 180 | 266 => 209 | n => n, fun | 9 => 9 | 5 => 5 | 3 => 3 | n => n, fun | n => n⟩
theorem Tryz.lays137 : Go.Proofs.Lays.n137 Tryz.prog Tryz.lays137_ren := {
  mixed := by kernel_rfl
  f137 := Tryz.func134.trans (congrArg some (by kernel_rfl))
  f217 := Tryz.func180.trans (congrArg some (by kernel_rfl))
  f266 := Tryz.func209.trans (congrArg some (by kernel_rfl))
  t3 := Tryz.underlying3
  a3 := Tryz.isAgg3
  z3 := Tryz.sizeOf3
  v3 := Tryz.zeroValue3
  t5 := Tryz.underlying5
  a5 := Tryz.isAgg5
  z5 := Tryz.sizeOf5
  v5 := Tryz.zeroValue5
  t9 := Tryz.underlying9
  a9 := Tryz.isAgg9
  z9 := Tryz.sizeOf9
  v9 := Tryz.zeroValue9 }
def Tryz.lays104_ren : Go.Shelf.Ren := ⟨fun | 104 => 89 | 211 => 132 | 207 => 133 | n => n, fun | 9 => 9 | 4 => 4 | 24 => 110 | 3 => 3 | n => n, fun | n => n⟩
theorem Tryz.lays104 : Go.Proofs.Lays.n104 Tryz.prog Tryz.lays104_ren := {
  mixed := by kernel_rfl
  f104 := Tryz.func89.trans (congrArg some (by kernel_rfl))
  f207 := Tryz.func133.trans (congrArg some (by kernel_rfl))
  f211 := Tryz.func132.trans (congrArg some (by kernel_rfl))
  t3 := Tryz.underlying3
  a3 := Tryz.isAgg3
  z3 := Tryz.sizeOf3
  v3 := Tryz.zeroValue3
  t4 := Tryz.underlying4
  a4 := Tryz.isAgg4
  z4 := Tryz.sizeOf4
  v4 := Tryz.zeroValue4
  t9 := Tryz.underlying9
  a9 := Tryz.isAgg9
  z9 := Tryz.sizeOf9
  v9 := Tryz.zeroValue9
  t24 := Tryz.underlying110
  a24 := Tryz.isAgg110
  z24 := Tryz.sizeOf110
  v24 := Tryz.zeroValue110 }
def Tryz.laysM173_ren : Go.Shelf.Ren := ⟨fun | 173 => 71 | 246 => 116 | 283 => 165 | 284 => 166 | 285 => 167 | 286 => 168 | 129 => 198 | 317 => 197 | 318 => 199 | 319 => 200 | 320 => 201 | 337 => 215 | 338 => 216 | n => n, fun | 2 => 2 | 3 => 3 | 9 => 9 | 4 => 4 | 171 => 164 | 0 => 0 | 53 => 79 | 37 => 22 | 5 => 5 | 173 => 167 | 212 => 187 | 51 => 180 | 20 => 20 | 213 => 188 | 46 => 139 | 232 => 206 | 233 => 207 | n => n, fun | 17 => 3 | 18 => 6 | 19 => 7 | n => n⟩
theorem Tryz.laysM173 : Go.Proofs.LaysM.n173 Tryz.prog Tryz.laysM173_ren := {
  mixed := by kernel_rfl
  f129 := Tryz.func198.trans (congrArg some (by kernel_rfl))
  f173 := Tryz.func71.trans (congrArg some (by kernel_rfl))
  f246 := Tryz.func116.trans (congrArg some (by kernel_rfl))
  f283 := Tryz.func165.trans (congrArg some (by kernel_rfl))
  f284 := Tryz.func166.trans (congrArg some (by kernel_rfl))
  f285 := Tryz.func167.trans (congrArg some (by kernel_rfl))
  f286 := Tryz.func168.trans (congrArg some (by kernel_rfl))
  f317 := Tryz.func197.trans (congrArg some (by kernel_rfl))
  f318 := Tryz.func199.trans (congrArg some (by kernel_rfl))
  f319 := Tryz.func200.trans (congrArg some (by kernel_rfl))
  f320 := Tryz.func201.trans (congrArg some (by kernel_rfl))
  f337 := Tryz.func215.trans (congrArg some (by kernel_rfl))
  f338 := Tryz.func216.trans (congrArg some (by kernel_rfl))
  t0 := Tryz.underlying0
  a0 := Tryz.isAgg0
  z0 := Tryz.sizeOf0
  v0 := Tryz.zeroValue0
  t2 := Tryz.underlying2
  a2 := Tryz.isAgg2
  z2 := Tryz.sizeOf2
  v2 := Tryz.zeroValue2
  t3 := Tryz.underlying3
  a3 := Tryz.isAgg3
  z3 := Tryz.sizeOf3
  v3 := Tryz.zeroValue3
  t4 := Tryz.underlying4
  a4 := Tryz.isAgg4
  z4 := Tryz.sizeOf4
  v4 := Tryz.zeroValue4
  t5 := Tryz.underlying5
  a5 := Tryz.isAgg5
  z5 := Tryz.sizeOf5
  v5 := Tryz.zeroValue5
  t9 := Tryz.underlying9
  a9 := Tryz.isAgg9
  z9 := Tryz.sizeOf9
  v9 := Tryz.zeroValue9
  t20 := Tryz.underlying20
  a20 := Tryz.isAgg20
  z20 := Tryz.sizeOf20
  v20 := Tryz.zeroValue20
  t37 := Tryz.underlying22
  a37 := Tryz.isAgg22
  z37 := Tryz.sizeOf22
  v37 := Tryz.zeroValue22
  t46 := Tryz.underlying139
  a46 := Tryz.isAgg139
  z46 := Tryz.sizeOf139
  v46 := Tryz.zeroValue139
  t51 := Tryz.underlying180
  a51 := Tryz.isAgg180
  z51 := Tryz.sizeOf180
  v51 := Tryz.zeroValue180
  t53 := Tryz.underlying79
  a53 := Tryz.isAgg79
  z53 := Tryz.sizeOf79
  v53 := Tryz.zeroValue79
  t171 := Tryz.underlying164
  a171 := Tryz.isAgg164
  z171 := Tryz.sizeOf164
  v171 := Tryz.zeroValue164
  t173 := Tryz.underlying167
  a173 := Tryz.isAgg167
  z173 := Tryz.sizeOf167
  v173 := Tryz.zeroValue167
  t212 := Tryz.underlying187
  a212 := Tryz.isAgg187
  z212 := Tryz.sizeOf187
  v212 := Tryz.zeroValue187
  t213 := Tryz.underlying188
  a213 := Tryz.isAgg188
  z213 := Tryz.sizeOf188
  t232 := Tryz.underlying206
  a232 := Tryz.isAgg206
  z232 := Tryz.sizeOf206
  v232 := Tryz.zeroValue206
  t233 := Tryz.underlying207
  a233 := Tryz.isAgg207
  z233 := Tryz.sizeOf207
  v233 := Tryz.zeroValue207
  g17 := by kernel_rfl
  g18 := by kernel_rfl
  g19 := by kernel_rfl
  i0 := by kernel_rfl
  i2 := by kernel_rfl
  i3 := by kernel_rfl
  i4 := by kernel_rfl
  i5 := by kernel_rfl
  i9 := by kernel_rfl
  i20 := by kernel_rfl
  i37 := by kernel_rfl
  i46 := by kernel_rfl
  i51 := by kernel_rfl
  i53 := by kernel_rfl
  i171 := by kernel_rfl
  i173 := by kernel_rfl
  i212 := by kernel_rfl
  i232 := by kernel_rfl
  i233 := by kernel_rfl
  m17 := by kernel_rfl
  m18 := by kernel_rfl
  m19 := by kernel_rfl }
def Tryz.laysC174_ren : Go.Shelf.Ren := ⟨fun | 174 => 66 | 247 => 111 | 245 => 112 | 287 => 154 | 279 => 155 | 280 => 156 | 281 => 157 | 282 => 158 | 321 => 188 | 322 => 189 | 316 => 190 | 171 => 192 | 205 => 191 | 243 => 212 | 246 => 116 | 283 => 165 | 284 => 166 | 285 => 167 | 286 => 168 | 129 => 198 | 317 => 197 | 318 => 199 | 319 => 200 | 320 => 201 | 337 => 215 | 338 => 216 | n => n, fun | 9 => 9 | 3 => 3 | 2 => 2 | 75 => 88 | 85 => 89 | 4 => 4 | 167 => 148 | 5 => 5 | 53 => 79 | 175 => 149 | 46 => 139 | 168 => 151 | 37 => 22 | 0 => 0 | 210 => 178 | 21 => 21 | 127 => 185 | 145 => 197 | 143 => 195 | 171 => 164 | 173 => 167 | 212 => 187 | 51 => 180 | 20 => 20 | 213 => 188 | 232 => 206 | 233 => 207 | 80 => 114 | n => n, fun | 15 => 1 | 16 => 2 | 17 => 3 | 18 => 6 | 19 => 7 | n => n⟩
theorem Tryz.laysC174 : Go.Proofs.LaysC.n174 Tryz.prog Tryz.laysC174_ren := {
  mixed := by kernel_rfl
  f129 := Tryz.func198.trans (congrArg some (by kernel_rfl))
  f171 := Tryz.func192.trans (congrArg some (by kernel_rfl))
  f174 := Tryz.func66.trans (congrArg some (by kernel_rfl))
  f205 := Tryz.func191.trans (congrArg some (by kernel_rfl))
  f243 := Tryz.func212.trans (congrArg some (by kernel_rfl))
  f245 := Tryz.func112.trans (congrArg some (by kernel_rfl))
  f246 := Tryz.func116.trans (congrArg some (by kernel_rfl))
  f247 := Tryz.func111.trans (congrArg some (by kernel_rfl))
  f279 := Tryz.func155.trans (congrArg some (by kernel_rfl))
  f280 := Tryz.func156.trans (congrArg some (by kernel_rfl))
  f281 := Tryz.func157.trans (congrArg some (by kernel_rfl))
  f282 := Tryz.func158.trans (congrArg some (by kernel_rfl))
  f283 := Tryz.func165.trans (congrArg some (by kernel_rfl))
  f284 := Tryz.func166.trans (congrArg some (by kernel_rfl))
  f285 := Tryz.func167.trans (congrArg some (by kernel_rfl))
  f286 := Tryz.func168.trans (congrArg some (by kernel_rfl))
  f287 := Tryz.func154.trans (congrArg some (by kernel_rfl))
  f316 := Tryz.func190.trans (congrArg some (by kernel_rfl))
  f317 := Tryz.func197.trans (congrArg some (by kernel_rfl))
  f318 := Tryz.func199.trans (congrArg some (by kernel_rfl))
  f319 := Tryz.func200.trans (congrArg some (by kernel_rfl))
  f320 := Tryz.func201.trans (congrArg some (by kernel_rfl))
  f321 := Tryz.func188.trans (congrArg some (by kernel_rfl))
  f322 := Tryz.func189.trans (congrArg some (by kernel_rfl))
  f337 := Tryz.func215.trans (congrArg some (by kernel_rfl))
  f338 := Tryz.func216.trans (congrArg some (by kernel_rfl))
  t0 := Tryz.underlying0
  a0 := Tryz.isAgg0
  z0 := Tryz.sizeOf0
  v0 := Tryz.zeroValue0
  t2 := Tryz.underlying2
  a2 := Tryz.isAgg2
  z2 := Tryz.sizeOf2
  v2 := Tryz.zeroValue2
  t3 := Tryz.underlying3
  a3 := Tryz.isAgg3
  z3 := Tryz.sizeOf3
  v3 := Tryz.zeroValue3
  t4 := Tryz.underlying4
  a4 := Tryz.isAgg4
  z4 := Tryz.sizeOf4
  v4 := Tryz.zeroValue4
  t5 := Tryz.underlying5
  a5 := Tryz.isAgg5
  z5 := Tryz.sizeOf5
  v5 := Tryz.zeroValue5
  t9 := Tryz.underlying9
  a9 := Tryz.isAgg9
  z9 := Tryz.sizeOf9
  v9 := Tryz.zeroValue9
  t20 := Tryz.underlying20
  a20 := Tryz.isAgg20
  z20 := Tryz.sizeOf20
  v20 := Tryz.zeroValue20
  t21 := Tryz.underlying21
  a21 := Tryz.isAgg21
  z21 := Tryz.sizeOf21
  v21 := Tryz.zeroValue21
  t37 := Tryz.underlying22
  a37 := Tryz.isAgg22
  z37 := Tryz.sizeOf22
  v37 := Tryz.zeroValue22
  t46 := Tryz.underlying139
  a46 := Tryz.isAgg139
  z46 := Tryz.sizeOf139
  v46 := Tryz.zeroValue139
  t51 := Tryz.underlying180
  a51 := Tryz.isAgg180
  z51 := Tryz.sizeOf180
  v51 := Tryz.zeroValue180
  t53 := Tryz.underlying79
  a53 := Tryz.isAgg79
  z53 := Tryz.sizeOf79
  v53 := Tryz.zeroValue79
  t75 := Tryz.underlying88
  a75 := Tryz.isAgg88
  z75 := Tryz.sizeOf88
  v75 := Tryz.zeroValue88
  t85 := Tryz.underlying89
  a85 := Tryz.isAgg89
  z85 := Tryz.sizeOf89
  v85 := Tryz.zeroValue89
  t127 := Tryz.underlying185
  a127 := Tryz.isAgg185
  z127 := Tryz.sizeOf185
  v127 := Tryz.zeroValue185
  t143 := Tryz.underlying195
  a143 := Tryz.isAgg195
  z143 := Tryz.sizeOf195
  v143 := Tryz.zeroValue195
  t145 := Tryz.underlying197
  a145 := Tryz.isAgg197
  z145 := Tryz.sizeOf197
  v145 := Tryz.zeroValue197
  t167 := Tryz.underlying148
  a167 := Tryz.isAgg148
  z167 := Tryz.sizeOf148
  v167 := Tryz.zeroValue148
  t168 := Tryz.underlying151
  a168 := Tryz.isAgg151
  z168 := Tryz.sizeOf151
  v168 := Tryz.zeroValue151
  t171 := Tryz.underlying164
  a171 := Tryz.isAgg164
  z171 := Tryz.sizeOf164
  v171 := Tryz.zeroValue164
  t173 := Tryz.underlying167
  a173 := Tryz.isAgg167
  z173 := Tryz.sizeOf167
  v173 := Tryz.zeroValue167
  t175 := Tryz.underlying149
  a175 := Tryz.isAgg149
  z175 := Tryz.sizeOf149
  v175 := Tryz.zeroValue149
  t210 := Tryz.underlying178
  a210 := Tryz.isAgg178
  z210 := Tryz.sizeOf178
  v210 := Tryz.zeroValue178
  t212 := Tryz.underlying187
  a212 := Tryz.isAgg187
  z212 := Tryz.sizeOf187
  v212 := Tryz.zeroValue187
  t213 := Tryz.underlying188
  a213 := Tryz.isAgg188
  z213 := Tryz.sizeOf188
  t232 := Tryz.underlying206
  a232 := Tryz.isAgg206
  z232 := Tryz.sizeOf206
  v232 := Tryz.zeroValue206
  t233 := Tryz.underlying207
  a233 := Tryz.isAgg207
  z233 := Tryz.sizeOf207
  v233 := Tryz.zeroValue207
  g15 := by kernel_rfl
  g16 := by kernel_rfl
  g17 := by kernel_rfl
  g18 := by kernel_rfl
  g19 := by kernel_rfl
  t80 := Tryz.underlying114
  a80 := Tryz.isAgg114
  z80 := Tryz.sizeOf114
  v80 := Tryz.zeroValue114
  i0 := by kernel_rfl
  i2 := by kernel_rfl
  i3 := by kernel_rfl
  i4 := by kernel_rfl
  i5 := by kernel_rfl
  i9 := by kernel_rfl
  i20 := by kernel_rfl
  i21 := by kernel_rfl
  i37 := by kernel_rfl
  i46 := by kernel_rfl
  i51 := by kernel_rfl
  i53 := by kernel_rfl
  i75 := by kernel_rfl
  i80 := by kernel_rfl
  i85 := by kernel_rfl
  i127 := by kernel_rfl
  i143 := by kernel_rfl
  i145 := by kernel_rfl
  i167 := by kernel_rfl
  i168 := by kernel_rfl
  i171 := by kernel_rfl
  i173 := by kernel_rfl
  i175 := by kernel_rfl
  i210 := by kernel_rfl
  i212 := by kernel_rfl
  i232 := by kernel_rfl
  i233 := by kernel_rfl
  m15 := by kernel_rfl
  m16 := by kernel_rfl
  m17 := by kernel_rfl
  m18 := by kernel_rfl
  m19 := by kernel_rfl
  c0 := by kernel_rfl
  c2 := by kernel_rfl
  c3 := by kernel_rfl
  c4 := by kernel_rfl
  c5 := by kernel_rfl
  c9 := by kernel_rfl
  c20 := by kernel_rfl
  c21 := by kernel_rfl
  c37 := by kernel_rfl
  c46 := by kernel_rfl
  c51 := by kernel_rfl
  c53 := by kernel_rfl
  c75 := by kernel_rfl
  c80 := by kernel_rfl
  c85 := by kernel_rfl
  c127 := by kernel_rfl
  c143 := by kernel_rfl
  c145 := by kernel_rfl
  c167 := by kernel_rfl
  c168 := by kernel_rfl
  c171 := by kernel_rfl
  c173 := by kernel_rfl
  c175 := by kernel_rfl
  c210 := by kernel_rfl
  c212 := by kernel_rfl
  c213 := by kernel_rfl
  c232 := by kernel_rfl
  c233 := by kernel_rfl }
def Tryz.lays145_ren : Go.Shelf.Ren := ⟨fun | 145 => 45 | 220 => 88 | 219 => 131 | 217 => 180 | 225 => 181 | 224 => 182 | 267 => 183 | 266 => 209 | 314 => 210 | n => n, fun | 9 => 9 | 4 => 4 | 59 => 70 | 3 => 3 | 5 => 5 | 46 => 139 | 146 => 181 | 51 => 180 | n => n, fun | 1 => 0 | n => n⟩
theorem Tryz.lays145 : Go.Proofs.Lays.n145 Tryz.prog Tryz.lays145_ren := {
  mixed := by kernel_rfl
  f145 := Tryz.func45.trans (congrArg some (by kernel_rfl))
  f217 := Tryz.func180.trans (congrArg some (by kernel_rfl))
  f219 := Tryz.func131.trans (congrArg some (by kernel_rfl))
  f220 := Tryz.func88.trans (congrArg some (by kernel_rfl))
  f224 := Tryz.func182.trans (congrArg some (by kernel_rfl))
  f225 := Tryz.func181.trans (congrArg some (by kernel_rfl))
  f266 := Tryz.func209.trans (congrArg some (by kernel_rfl))
  f267 := Tryz.func183.trans (congrArg some (by kernel_rfl))
  f314 := Tryz.func210.trans (congrArg some (by kernel_rfl))
  t3 := Tryz.underlying3
  a3 := Tryz.isAgg3
  z3 := Tryz.sizeOf3
  v3 := Tryz.zeroValue3
  t4 := Tryz.underlying4
  a4 := Tryz.isAgg4
  z4 := Tryz.sizeOf4
  v4 := Tryz.zeroValue4
  t5 := Tryz.underlying5
  a5 := Tryz.isAgg5
  z5 := Tryz.sizeOf5
  v5 := Tryz.zeroValue5
  t9 := Tryz.underlying9
  a9 := Tryz.isAgg9
  z9 := Tryz.sizeOf9
  v9 := Tryz.zeroValue9
  t46 := Tryz.underlying139
  a46 := Tryz.isAgg139
  z46 := Tryz.sizeOf139
  v46 := Tryz.zeroValue139
  t51 := Tryz.underlying180
  a51 := Tryz.isAgg180
  z51 := Tryz.sizeOf180
  v51 := Tryz.zeroValue180
  t59 := Tryz.underlying70
  a59 := Tryz.isAgg70
  z59 := Tryz.sizeOf70
  v59 := Tryz.zeroValue70
  t146 := Tryz.underlying181
  a146 := Tryz.isAgg181
  z146 := Tryz.sizeOf181
  v146 := Tryz.zeroValue181
  g1 := by kernel_rfl }
def Tryz.lays101_ren : Go.Shelf.Ren := ⟨fun | 101 => 65 | 208 => 110 | 206 => 153 | n => n, fun | 9 => 9 | 4 => 4 | 3 => 3 | n => n, fun | n => n⟩
theorem Tryz.lays101 : Go.Proofs.Lays.n101 Tryz.prog Tryz.lays101_ren := {
  mixed := by kernel_rfl
  f101 := Tryz.func65.trans (congrArg some (by kernel_rfl))
  f206 := Tryz.func153.trans (congrArg some (by kernel_rfl))
  f208 := Tryz.func110.trans (congrArg some (by kernel_rfl))
  t3 := Tryz.underlying3
  a3 := Tryz.isAgg3
  z3 := Tryz.sizeOf3
  v3 := Tryz.zeroValue3
  t4 := Tryz.underlying4
  a4 := Tryz.isAgg4
  z4 := Tryz.sizeOf4
  v4 := Tryz.zeroValue4
  t9 := Tryz.underlying9
  a9 := Tryz.isAgg9
  z9 := Tryz.sizeOf9
  v9 := Tryz.zeroValue9 }
def Tryz.lays102_ren : Go.Shelf.Ren := ⟨fun | 102 => 48 | 209 => 92 | 207 => 133 | n => n, fun | 9 => 9 | 4 => 4 | 3 => 3 | n => n, fun | n => n⟩
theorem Tryz.lays102 : Go.Proofs.Lays.n102 Tryz.prog Tryz.lays102_ren := {
  mixed := by kernel_rfl
  f102 := Tryz.func48.trans (congrArg some (by kernel_rfl))
  f207 := Tryz.func133.trans (congrArg some (by kernel_rfl))
  f209 := Tryz.func92.trans (congrArg some (by kernel_rfl))
  t3 := Tryz.underlying3
  a3 := Tryz.isAgg3
  z3 := Tryz.sizeOf3
  v3 := Tryz.zeroValue3
  t4 := Tryz.underlying4
  a4 := Tryz.isAgg4
  z4 := Tryz.sizeOf4
  v4 := Tryz.zeroValue4
  t9 := Tryz.underlying9
  a9 := Tryz.isAgg9
  z9 := Tryz.sizeOf9
  v9 := Tryz.zeroValue9 }
def Tryz.lays146_ren : Go.Shelf.Ren := ⟨fun | 146 => 62 | 221 => 105 | 268 => 148 | 138 => 149 | 143 => 150 | 195 => 185 | 197 => 186 | 218 => 187 | 219 => 131 | 260 => 211 | 217 => 180 | 225 => 181 | 224 => 182 | 267 => 183 | 266 => 209 | 314 => 210 | n => n, fun | 9 => 9 | 31 => 57 | 3 => 3 | 4 => 4 | 0 => 0 | 105 => 174 | 21 => 21 | 5 => 5 | 46 => 139 | 119 => 202 | 139 => 205 | 138 => 204 | 146 => 181 | 51 => 180 | n => n, fun | 1 => 0 | 3 => 4 | 4 => 5 | n => n⟩
theorem Tryz.lays146 : Go.Proofs.Lays.n146 Tryz.prog Tryz.lays146_ren := {
  mixed := by kernel_rfl
  f138 := Tryz.func149.trans (congrArg some (by kernel_rfl))
  f143 := Tryz.func150.trans (congrArg some (by kernel_rfl))
  f146 := Tryz.func62.trans (congrArg some (by kernel_rfl))
  f195 := Tryz.func185.trans (congrArg some (by kernel_rfl))
  f197 := Tryz.func186.trans (congrArg some (by kernel_rfl))
  f217 := Tryz.func180.trans (congrArg some (by kernel_rfl))
  f218 := Tryz.func187.trans (congrArg some (by kernel_rfl))
  f219 := Tryz.func131.trans (congrArg some (by kernel_rfl))
  f221 := Tryz.func105.trans (congrArg some (by kernel_rfl))
  f224 := Tryz.func182.trans (congrArg some (by kernel_rfl))
  f225 := Tryz.func181.trans (congrArg some (by kernel_rfl))
  f260 := Tryz.func211.trans (congrArg some (by kernel_rfl))
  f266 := Tryz.func209.trans (congrArg some (by kernel_rfl))
  f267 := Tryz.func183.trans (congrArg some (by kernel_rfl))
  f268 := Tryz.func148.trans (congrArg some (by kernel_rfl))
  f314 := Tryz.func210.trans (congrArg some (by kernel_rfl))
  t0 := Tryz.underlying0
  a0 := Tryz.isAgg0
  z0 := Tryz.sizeOf0
  v0 := Tryz.zeroValue0
  t3 := Tryz.underlying3
  a3 := Tryz.isAgg3
  z3 := Tryz.sizeOf3
  v3 := Tryz.zeroValue3
  t4 := Tryz.underlying4
  a4 := Tryz.isAgg4
  z4 := Tryz.sizeOf4
  v4 := Tryz.zeroValue4
  t5 := Tryz.underlying5
  a5 := Tryz.isAgg5
  z5 := Tryz.sizeOf5
  v5 := Tryz.zeroValue5
  t9 := Tryz.underlying9
  a9 := Tryz.isAgg9
  z9 := Tryz.sizeOf9
  v9 := Tryz.zeroValue9
  t21 := Tryz.underlying21
  a21 := Tryz.isAgg21
  z21 := Tryz.sizeOf21
  v21 := Tryz.zeroValue21
  t31 := Tryz.underlying57
  a31 := Tryz.isAgg57
  z31 := Tryz.sizeOf57
  v31 := Tryz.zeroValue57
  t46 := Tryz.underlying139
  a46 := Tryz.isAgg139
  z46 := Tryz.sizeOf139
  v46 := Tryz.zeroValue139
  t51 := Tryz.underlying180
  a51 := Tryz.isAgg180
  z51 := Tryz.sizeOf180
  v51 := Tryz.zeroValue180
  t105 := Tryz.underlying174
  a105 := Tryz.isAgg174
  z105 := Tryz.sizeOf174
  v105 := Tryz.zeroValue174
  t119 := Tryz.underlying202
  a119 := Tryz.isAgg202
  z119 := Tryz.sizeOf202
  t138 := Tryz.underlying204
  a138 := Tryz.isAgg204
  z138 := Tryz.sizeOf204
  v138 := Tryz.zeroValue204
  t139 := Tryz.underlying205
  a139 := Tryz.isAgg205
  z139 := Tryz.sizeOf205
  v139 := Tryz.zeroValue205
  t146 := Tryz.underlying181
  a146 := Tryz.isAgg181
  z146 := Tryz.sizeOf181
  v146 := Tryz.zeroValue181
  g1 := by kernel_rfl
  g3 := by kernel_rfl
  g4 := by kernel_rfl }
def Tryz.lays105_ren : Go.Shelf.Ren := ⟨fun | 105 => 115 | 212 => 159 | 99 => 160 | 165 => 161 | 166 => 162 | 170 => 163 | 169 => 164 | 263 => 193 | 264 => 194 | 206 => 153 | 240 => 195 | 241 => 196 | 276 => 213 | 277 => 214 | n => n, fun | 9 => 9 | 3 => 3 | 4 => 4 | 20 => 20 | 0 => 0 | 46 => 139 | 109 => 154 | 5 => 5 | 72 => 158 | 76 => 160 | 51 => 180 | 146 => 181 | 53 => 79 | 148 => 183 | 70 => 156 | 37 => 22 | 75 => 88 | 127 => 185 | 164 => 198 | 80 => 114 | n => n, fun | n => n⟩
theorem Tryz.lays105 : Go.Proofs.Lays.n105 Tryz.prog Tryz.lays105_ren := {
  mixed := by kernel_rfl
  f99 := Tryz.func160.trans (congrArg some (by kernel_rfl))
  f105 := Tryz.func115.trans (congrArg some (by kernel_rfl))
  f165 := Tryz.func161.trans (congrArg some (by kernel_rfl))
  f166 := Tryz.func162.trans (congrArg some (by kernel_rfl))
  f169 := Tryz.func164.trans (congrArg some (by kernel_rfl))
  f170 := Tryz.func163.trans (congrArg some (by kernel_rfl))
  f206 := Tryz.func153.trans (congrArg some (by kernel_rfl))
  f212 := Tryz.func159.trans (congrArg some (by kernel_rfl))
  f240 := Tryz.func195.trans (congrArg some (by kernel_rfl))
  f241 := Tryz.func196.trans (congrArg some (by kernel_rfl))
  f263 := Tryz.func193.trans (congrArg some (by kernel_rfl))
  f264 := Tryz.func194.trans (congrArg some (by kernel_rfl))
  f276 := Tryz.func213.trans (congrArg some (by kernel_rfl))
  f277 := Tryz.func214.trans (congrArg some (by kernel_rfl))
  t0 := Tryz.underlying0
  a0 := Tryz.isAgg0
  z0 := Tryz.sizeOf0
  v0 := Tryz.zeroValue0
  t3 := Tryz.underlying3
  a3 := Tryz.isAgg3
  z3 := Tryz.sizeOf3
  v3 := Tryz.zeroValue3
  t4 := Tryz.underlying4
  a4 := Tryz.isAgg4
  z4 := Tryz.sizeOf4
  v4 := Tryz.zeroValue4
  t5 := Tryz.underlying5
  a5 := Tryz.isAgg5
  z5 := Tryz.sizeOf5
  v5 := Tryz.zeroValue5
  t9 := Tryz.underlying9
  a9 := Tryz.isAgg9
  z9 := Tryz.sizeOf9
  v9 := Tryz.zeroValue9
  t20 := Tryz.underlying20
  a20 := Tryz.isAgg20
  z20 := Tryz.sizeOf20
  v20 := Tryz.zeroValue20
  t37 := Tryz.underlying22
  a37 := Tryz.isAgg22
  z37 := Tryz.sizeOf22
  v37 := Tryz.zeroValue22
  t46 := Tryz.underlying139
  a46 := Tryz.isAgg139
  z46 := Tryz.sizeOf139
  v46 := Tryz.zeroValue139
  t51 := Tryz.underlying180
  a51 := Tryz.isAgg180
  z51 := Tryz.sizeOf180
  v51 := Tryz.zeroValue180
  t53 := Tryz.underlying79
  a53 := Tryz.isAgg79
  z53 := Tryz.sizeOf79
  v53 := Tryz.zeroValue79
  t70 := Tryz.underlying156
  a70 := Tryz.isAgg156
  z70 := Tryz.sizeOf156
  v70 := Tryz.zeroValue156
  t72 := Tryz.underlying158
  a72 := Tryz.isAgg158
  z72 := Tryz.sizeOf158
  v72 := Tryz.zeroValue158
  t75 := Tryz.underlying88
  a75 := Tryz.isAgg88
  z75 := Tryz.sizeOf88
  v75 := Tryz.zeroValue88
  t76 := Tryz.underlying160
  a76 := Tryz.isAgg160
  z76 := Tryz.sizeOf160
  v76 := Tryz.zeroValue160
  t109 := Tryz.underlying154
  a109 := Tryz.isAgg154
  z109 := Tryz.sizeOf154
  v109 := Tryz.zeroValue154
  t127 := Tryz.underlying185
  a127 := Tryz.isAgg185
  z127 := Tryz.sizeOf185
  v127 := Tryz.zeroValue185
  t146 := Tryz.underlying181
  a146 := Tryz.isAgg181
  z146 := Tryz.sizeOf181
  v146 := Tryz.zeroValue181
  t148 := Tryz.underlying183
  a148 := Tryz.isAgg183
  z148 := Tryz.sizeOf183
  v148 := Tryz.zeroValue183
  t164 := Tryz.underlying198
  a164 := Tryz.isAgg198
  z164 := Tryz.sizeOf198
  v164 := Tryz.zeroValue198 }
theorem Tryz.Builder_Extra_105 : Builder.Extra Tryz.prog Tryz.lays105_ren := {
  sizeBuilder := by kernel_rfl
  liesBuilder := by kernel_rfl
  t5 := Tryz.underlying5
  a5 := Tryz.isAgg5
  z5 := Tryz.sizeOf5
  v5 := Tryz.zeroValue5
  infoByte := by kernel_rfl
  cellsByte := by kernel_rfl
  sizeByte := by kernel_rfl
  neB5 := by decide }
end Go.Proofs

namespace Go.Ab
open Go Go.Proofs
theorem strings_IndexByte_DD : DOk Tryz.prog (DD []) := DD_nil _
def strings_IndexByte (a0 : (List UInt8)) (a1 : Int) : Int := Go.Lib.indexByte a0 a1.toNat.toUInt8
theorem strings_IndexByte_den (a0 : (List UInt8)) (a1 : Int)  : Den Tryz.prog 134 [.str a0, .int .u8 a1] (.int .i64 (strings_IndexByte a0 a1)) := by
  refine Den.plain ⟨_, Tryz.func134, rfl, rfl⟩ (by simp [NoOwnL, NoOwn]) ?_
  intro w M vs hI hr
  simp only [RepL] at hr
  obtain ⟨u0, us0, f0, g0, rfl, h0e, h0, u1, us1, f1, g1, rfl, h1e, h1, rfl, _⟩ := hr
  have e0 := h0.val_str
  have e1 := h1.val_int
  subst e0 e1
  refine (Any.strings_IndexByte Tryz.lays137 ⟨a0.toArray⟩ a1 w).mono ?_
  rintro e w' ⟨rfl, rfl⟩
  exact ⟨_, rfl, Grow.refl _, fun M' => rep_int _ _⟩
def D_strings_IndexByte : DF
  | [x0, x1] => some (.int .i64 (strings_IndexByte (rdS x0) (rdI x1)), false, [wS x0, wI .u8 x1])
  | _ => none
theorem D_strings_IndexByte_ok : OkD Tryz.prog 134 D_strings_IndexByte := by
  intro xs r z ob h ho
  unfold D_strings_IndexByte at h
  split at h
  · simp only [Option.some.injEq, Prod.mk.injEq] at h
    obtain ⟨rfl, rfl, rfl⟩ := h
    obtain ⟨h0, h1, _⟩ := ho
    exact Den.sim (strings_IndexByte_den _ _ ) (simOL_cons (wS_sim h0).1 <| simOL_cons (wI_sim h1).1 <| trivial) (noIdL_cons (wS_sim h0).2 <| noIdL_cons (wI_sim h1).2 <| rfl) rfl
  · cases h
end Go.Ab

namespace Go.Ab
open Go Go.Proofs
def impl_areCharacterColors_b1 (a0 : (List UInt8)) (i1 : Nat) (s1 : Int) : Except (Bool) (Int) :=
  (bif decide ((strings_IndexByte [87, 82, 71, 89] ((a0.getD i1 0).toNat : Int)) ≤ s1) then .error false else .ok (strings_IndexByte [87, 82, 71, 89] ((a0.getD i1 0).toNat : Int)))
def impl_areCharacterColors (a0 : (List UInt8)) : Bool :=
  (match loopR (impl_areCharacterColors_b1 a0) (a0.length - 0) 0 (-1) with | .error e => e | .ok s1 => (impl_within (a0.length : Int) 1 3))
namespace N93
theorem DD : DOk Tryz.prog (Go.Ab.DD [(134, dP D_strings_IndexByte), (68, dP D_impl_within)]) := DD_cons D_strings_IndexByte_ok.e <| DD_cons D_impl_within_ok.e <| DD_nil _
theorem dn : type_of% (And.intro @D_strings_IndexByte.eq_1 <| @D_impl_within.eq_1) := by and_intros <;> intros <;> rfl
theorem ol : type_of% (@impl_within.eq_1) := @impl_within.eq_1
theorem den (a0 : (List UInt8))  : Den Tryz.prog 93 [.str a0] (.bool (impl_areCharacterColors a0)) := by
  generalize hR : impl_areCharacterColors a0 = r
  unfold impl_areCharacterColors at hR
  refine di Tryz.func93 Tryz.ntmps93 Tryz.results93 ?_
  intro c hL hc hk
  obtain ⟨hL0, _⟩ := hL
  have hw0 : a0.length < 9223372036854775808 := Nat.lt_succ_of_le hL0
  clear hL0
  simp only [pars, Nat.zero_add]
  iterate 3 refine rS ?_
  refine AWP.block ?_
  generalize hz1 : loopR (impl_areCharacterColors_b1 a0) (a0.length - 0) 0 (-1) = z1 at hR
  refine AWP.range (impl_areCharacterColors_b1 a0) (fun i1 s1 => ⟨[(0, .str a0), (3, .int .i64 s1), (4, .int .i64 (i1 : Int))], []⟩) (fun i1 s1 => True) (a0.length) 0 (-1) [] hz1 ot wt sm ?_
  clear hz1
  intro i1 s1 hi1 hW1 hz1
  refine rS ?_
  refine AWP.cond rfl (fun hb => ?_) (fun hb => ?_)
  · have hlt1 : i1 < a0.length := ot
    rw [loopR_lt hlt1] at hz1; simp only [impl_areCharacterColors_b1] at hz1
    iterate 2 refine rS ?_
    refine AWP.cond rfl (fun hb => ?_) (fun hb => ?_)
    · simp only [hb, cond_true] at hz1
      refine rS ?_
      refine AWP.ret ?_
      subst hz1
      dsimp only at hR
      subst hR
      exact es
    · simp only [hb, cond_false] at hz1
      iterate 2 refine rS ?_
      exact ⟨_, [], hlt1, wt, hz1, sm⟩
  · obtain rfl : i1 = a0.length := ot
    rw [loopR_ge (Nat.le_refl _)] at hz1; subst hz1; dsimp only at hR
    refine AWP.exit ?_; refine exitTo_here ?_
    refine rS ?_
    refine AWP.ret ?_
    subst hR
    exact es
end N93
def D_impl_areCharacterColors : DF
  | [x0] => some (.bool (impl_areCharacterColors (rdS x0)), false, [wS x0])
  | _ => none
theorem D_impl_areCharacterColors_ok : OkD Tryz.prog 93 D_impl_areCharacterColors := by unfold D_impl_areCharacterColors; exact dk N93.den
end Go.Ab

namespace Go.Ab
open Go Go.Proofs
def spec_l05Rank (a0 : Int) : Int :=
  (bif (a0 == 87) then 1 else (bif (a0 == 82) then 2 else (bif (a0 == 71) then 3 else (bif (a0 == 89) then 4 else 0))))
namespace N204
theorem DD : DOk Tryz.prog (Go.Ab.DD []) := DD_nil _
theorem den (a0 : Int)  : Den Tryz.prog 204 [.int .u8 a0] (.int .i64 (spec_l05Rank a0)) := by
  generalize hR : spec_l05Rank a0 = r
  unfold spec_l05Rank at hR
  refine di Tryz.func204 Tryz.ntmps204 Tryz.results204 ?_
  intro c hL hc hk
  clear hL
  simp only [pars, Nat.zero_add]
  iterate 3 refine rS ?_
  refine AWP.cond rfl (fun hb => ?_) (fun hb => ?_)
  · replace hR := ct hR
    refine rS ?_
    refine AWP.ret ?_
    subst hR
    exact es
  · replace hR := cf hR
    refine rS ?_
    refine AWP.cond rfl (fun hb => ?_) (fun hb => ?_)
    · replace hR := ct hR
      refine rS ?_
      refine AWP.ret ?_
      subst hR
      exact es
    · replace hR := cf hR
      refine rS ?_
      refine AWP.cond rfl (fun hb => ?_) (fun hb => ?_)
      · replace hR := ct hR
        refine rS ?_
        refine AWP.ret ?_
        subst hR
        exact es
      · replace hR := cf hR
        refine rS ?_
        refine AWP.cond rfl (fun hb => ?_) (fun hb => ?_)
        · replace hR := ct hR
          refine rS ?_
          refine AWP.ret ?_
          subst hR
          exact es
        · replace hR := cf hR
          refine rS ?_
          refine AWP.ret ?_
          subst hR
          exact es
end N204
def D_spec_l05Rank : DF
  | [x0] => some (.int .i64 (spec_l05Rank (rdI x0)), false, [wI .u8 x0])
  | _ => none
theorem D_spec_l05Rank_ok : OkD Tryz.prog 204 D_spec_l05Rank := by unfold D_spec_l05Rank; exact dk N204.den
end Go.Ab

namespace Go.Ab
open Go Go.Proofs
def spec_l05Colors_b1 (a0 : (List UInt8)) (i1 : Nat) (s1 : Unit) : Except (Bool) (Unit) :=
  (bif (((spec_l05Rank ((a0.getD i1 0).toNat : Int)) == 0) || (decide (0 < (i1 : Int)) && decide ((spec_l05Rank ((a0.getD i1 0).toNat : Int)) ≤ (spec_l05Rank ((a0.getD ((IntKind.wrap .i64 ((i1 : Int) - 1)).toNat) 0).toNat : Int))))) then .error false else .ok ())
def spec_l05Colors (a0 : (List UInt8)) : Bool :=
  (match loopR (spec_l05Colors_b1 a0) (a0.length - 0) 0 () with | .error e => e | .ok s1 => (decide (1 ≤ (a0.length : Int)) && decide ((a0.length : Int) ≤ 3)))
namespace N175
theorem DD : DOk Tryz.prog (Go.Ab.DD [(204, dP D_spec_l05Rank)]) := DD_cons D_spec_l05Rank_ok.e <| DD_nil _
theorem dn : type_of% (@D_spec_l05Rank.eq_1) := by and_intros <;> intros <;> rfl
theorem den (a0 : (List UInt8))  : Den Tryz.prog 175 [.str a0] (.bool (spec_l05Colors a0)) := by
  generalize hR : spec_l05Colors a0 = r
  unfold spec_l05Colors at hR
  refine di Tryz.func175 Tryz.ntmps175 Tryz.results175 ?_
  intro c hL hc hk
  obtain ⟨hL0, _⟩ := hL
  have hw0 : a0.length < 9223372036854775808 := Nat.lt_succ_of_le hL0
  clear hL0
  simp only [pars, Nat.zero_add]
  iterate 2 refine rS ?_
  refine AWP.block ?_
  generalize hz1 : loopR (spec_l05Colors_b1 a0) (a0.length - 0) 0 () = z1 at hR
  refine AWP.range (spec_l05Colors_b1 a0) (fun i1 s1 => ⟨[(0, .str a0), (3, .int .i64 (i1 : Int))], []⟩) (fun i1 s1 => True) (a0.length) 0 () [] hz1 ot wt sm ?_
  clear hz1
  intro i1 s1 hi1 hW1 hz1
  refine rS ?_
  refine AWP.cond rfl (fun hb => ?_) (fun hb => ?_)
  · have hlt1 : i1 < a0.length := ot
    rw [loopR_lt hlt1] at hz1; simp only [spec_l05Colors_b1] at hz1
    refine rD 21 ?_
    refine AWP.cond rfl (fun hb => ?_) (fun hb => ?_)
    · simp only [hb, cond_true] at hz1
      refine rS ?_
      refine AWP.ret ?_
      subst hz1
      dsimp only at hR
      subst hR
      exact es
    · simp only [hb, cond_false] at hz1
      refine rS ?_
      exact ⟨_, [], hlt1, wt, hz1, sm⟩
  · obtain rfl : i1 = a0.length := ot
    rw [loopR_ge (Nat.le_refl _)] at hz1; subst hz1; dsimp only at hR
    refine AWP.exit ?_; refine exitTo_here ?_
    refine rS ?_
    refine AWP.ret ?_
    subst hR
    exact es
end N175
def D_spec_l05Colors : DF
  | [x0] => some (.bool (spec_l05Colors (rdS x0)), false, [wS x0])
  | _ => none
theorem D_spec_l05Colors_ok : OkD Tryz.prog 175 D_spec_l05Colors := by unfold D_spec_l05Colors; exact dk N175.den
end Go.Ab

namespace Go.Ab
open Go Go.Proofs
set_option maxRecDepth 10000 in
theorem rank_all : ∀ n : Fin 256, spec_l05Rank (n.val : Int) = strings_IndexByte [87, 82, 71, 89] (n.val : Int) + 1 ∧ -1 ≤ strings_IndexByte [87, 82, 71, 89] (n.val : Int) := by decide
theorem rank_ix (b : UInt8) : spec_l05Rank (b.toNat : Int) = strings_IndexByte [87, 82, 71, 89] (b.toNat : Int) + 1 ∧ -1 ≤ strings_IndexByte [87, 82, 71, 89] (b.toNat : Int) :=
  rank_all ⟨b.toNat, b.toNat_lt⟩
theorem colors_eq (s : List UInt8) (hl : s.length < 9223372036854775808) : impl_areCharacterColors s = spec_l05Colors s := by
  unfold impl_areCharacterColors spec_l05Colors
  have hs := loopR_sim (b1 := impl_areCharacterColors_b1 s) (b2 := spec_l05Colors_b1 s) (fun i (x : Int) (_ : Unit) => if i = 0 then x = -1 else x + 1 = spec_l05Rank ((s.getD (i - 1) 0).toNat : Int) ∧ 0 ≤ x) (k := s.length - 0) (i := 0) (s := -1) (t := ()) (by simp) (by
    intro j x u _ hj h
    unfold impl_areCharacterColors_b1 spec_l05Colors_b1
    obtain ⟨r1, r2⟩ := rank_ix (s.getD j 0)
    rw [r1]
    generalize strings_IndexByte [87, 82, 71, 89] ((s.getD j 0).toNat : Int) = p at *
    by_cases h0 : j = 0
    · subst h0
      rw [if_pos rfl] at h
      subst h
      simp only [Int.natCast_zero, show decide ((0 : Int) < 0) = false from rfl, Bool.false_and, Bool.or_false]
      by_cases hp : p = -1
      · subst hp; left; exact ⟨false, rfl, rfl⟩
      · right
        have d1 : decide (p ≤ -1) = false := decide_eq_false (by omega)
        have d2 : (p + 1 == 0) = false := by rw [beq_eq_false_iff_ne]; omega
        rw [d1, d2]
        exact ⟨p, (), rfl, rfl, by rw [if_neg (by omega)]; exact ⟨r1.symm, by omega⟩⟩
    · rw [if_neg h0] at h
      obtain ⟨h1, h2⟩ := h
      have d3 : decide (0 < (j : Int)) = true := decide_eq_true (by omega)
      have hw : (IntKind.wrap .i64 ((j : Int) - 1)).toNat = j - 1 := by rw [IntKind.wrap_i64]; omega
      rw [d3, hw, ← h1]
      simp only [Bool.true_and]
      by_cases hp : p ≤ x
      · left
        have d1 : decide (p ≤ x) = true := decide_eq_true hp
        have d2 : (p + 1 == 0 || decide (p + 1 ≤ x + 1)) = true := by
          rw [Bool.or_eq_true, decide_eq_true_eq]; right; omega
        rw [d1, d2]
        exact ⟨false, rfl, rfl⟩
      · right
        have d1 : decide (p ≤ x) = false := decide_eq_false hp
        have d2 : (p + 1 == 0 || decide (p + 1 ≤ x + 1)) = false := by
          rw [Bool.or_eq_false_iff, beq_eq_false_iff_ne, decide_eq_false_iff_not]; omega
        rw [d1, d2]
        exact ⟨p, (), rfl, rfl, by rw [if_neg (by omega)]; exact ⟨by rw [show j + 1 - 1 = j by omega]; exact r1.symm, by omega⟩⟩)
  rcases hs with ⟨r, h1, h2⟩ | ⟨u, v, h1, h2, _⟩
  · rw [h1, h2]
  · rw [h1, h2]
    simp only [impl_within]
end Go.Ab

namespace Go.Ab
open Go
def codesL : List (List UInt8) := [[46, 45], [45, 46, 46, 46], [45, 46, 45, 46], [45, 46, 46], [46], [46, 46, 45, 46], [45, 45, 46], [46, 46, 46, 46], [46, 46], [46, 45, 45, 45], [45, 46, 45], [46, 45, 46, 46], [45, 45], [45, 46], [45, 45, 45], [46, 45, 45, 46], [45, 45, 46, 45], [46, 45, 46], [46, 46, 46], [45], [46, 46, 45], [46, 46, 46, 45], [46, 45, 45], [45, 46, 46, 45], [45, 46, 45, 45], [45, 45, 46, 46]]
theorem codes_all : ∀ x ∈ codesL, 1 ≤ x.length ∧ x.length ≤ 4 ∧ ∀ c ∈ x, c = 45 ∨ c = 46 := by decide
theorem codeL_len (n : Nat) : (codesL.getD n default).length ≤ 4 := by
  rw [List.getD_eq_getElem?_getD]
  cases h : codesL[n]? with
  | none => show (0 : Nat) ≤ 4; omega
  | some x => exact (codes_all x (List.mem_of_getElem? h)).2.1
theorem code_len (n : Nat) : (([[46, 45], [45, 46, 46, 46], [45, 46, 45, 46], [45, 46, 46], [46], [46, 46, 45, 46], [45, 45, 46], [46, 46, 46, 46], [46, 46], [46, 45, 45, 45], [45, 46, 45], [46, 45, 46, 46], [45, 45], [45, 46], [45, 45, 45], [46, 45, 45, 46], [45, 45, 46, 45], [46, 45, 46], [46, 46, 46], [45], [46, 46, 45], [46, 46, 46, 45], [46, 45, 45], [45, 46, 46, 45], [45, 46, 45, 45], [45, 45, 46, 46]] : List (List UInt8)).getD n default).length ≤ 4 := codeL_len n
theorem less_one (x y : UInt8) : Op.bytesLess [x] [y] = decide (x < y) := by
  simp only [Op.bytesLess]
  by_cases h : x < y
  · simp [h]
  · simp [h]
end Go.Ab

namespace Go.Ab
open Go
theorem less_sing (a : List UInt8) (c : UInt8) (h : a.length = 1) : Op.bytesLess a [c] = decide ((a.getD 0 0).toNat < c.toNat) := by
  obtain ⟨x, rfl⟩ := List.length_eq_one_iff.1 h
  simp only [Op.bytesLess, Bool.and_false, Bool.or_false, List.getD_cons_zero]
  rfl
theorem eq_sing (a : List UInt8) (c : UInt8) (h : a.length = 1) : (a == [c]) = decide ((a.getD 0 0).toNat = c.toNat) := by
  obtain ⟨x, rfl⟩ := List.length_eq_one_iff.1 h
  apply Bool.eq_iff_iff.2
  simp [UInt8.toNat_inj]
theorem u8_wrap (n : Int) (h1 : 0 ≤ n) (h2 : n < 256) : IntKind.wrap .u8 n = n := by
  have : IntKind.wrap .u8 n = n % 256 := rfl
  rw [this]; omega
theorem signs_ix (a : List UInt8) (h : ((a.length : Int) = 1 ∧ Op.bytesLess a [65] = false) ∧ (Op.bytesLess a [90] = true ∨ (a == [90]) = true)) :
    0 ≤ IntKind.wrap .u8 (((a.getD 0 0).toNat : Int) - 65) ∧ IntKind.wrap .u8 (((a.getD 0 0).toNat : Int) - 65) < 26 ∧ 0 ≤ IntKind.wrap .u8 (((a.getD 0 0).toNat : Int) + -65) ∧ IntKind.wrap .u8 (((a.getD 0 0).toNat : Int) + -65) < 26 := by
  have h1 : a.length = 1 := by omega
  rw [less_sing a 65 h1, less_sing a 90 h1, eq_sing a 90 h1] at h
  have e1 : (65 : UInt8).toNat = 65 := rfl
  have e2 : (90 : UInt8).toNat = 90 := rfl
  rw [e1, e2] at h
  simp only [decide_eq_true_eq, decide_eq_false_iff_not] at h
  have hx : 65 ≤ (a.getD 0 0).toNat ∧ (a.getD 0 0).toNat ≤ 90 := by omega
  rw [u8_wrap _ (by omega) (by omega), u8_wrap _ (by omega) (by omega)]
  omega
end Go.Ab

namespace Go.Ab
open Go Go.Proofs
def impl_signsOf (a0 : (List UInt8)) : (List UInt8) :=
  (bif ((((a0.length : Int) != 1) || Op.bytesLess a0 [65]) || !(Op.bytesLess a0 [90] || a0 == [90])) then [] else ([[46, 45], [45, 46, 46, 46], [45, 46, 45, 46], [45, 46, 46], [46], [46, 46, 45, 46], [45, 45, 46], [46, 46, 46, 46], [46, 46], [46, 45, 45, 45], [45, 46, 45], [46, 45, 46, 46], [45, 45], [45, 46], [45, 45, 45], [46, 45, 45, 46], [45, 45, 46, 45], [46, 45, 46], [46, 46, 46], [45], [46, 46, 45], [46, 46, 46, 45], [46, 45, 45], [45, 46, 46, 45], [45, 46, 45, 45], [45, 45, 46, 46]] : List (List UInt8)).getD ((IntKind.wrap .u8 (((a0.getD 0 0).toNat : Int) - 65)).toNat) [])
namespace N137
theorem DD : DOk Tryz.prog (Go.Ab.DD []) := DD_nil _
theorem o0 {p : Prop} (h : p := by (first | (simp only [Bool.or_eq_false_iff, Bool.not_eq_false', Bool.or_eq_true, bne_eq_false_iff_eq] at hb; have h9 := signs_ix a0 hb; have h8 := hb.1.1; and_intros <;> omega)); first | done | fail) : p := h
theorem den (a0 : (List UInt8))  : Den Tryz.prog 137 [.str a0] (.str (impl_signsOf a0)) := by
  generalize hR : impl_signsOf a0 = r
  unfold impl_signsOf at hR
  refine di Tryz.func137 Tryz.ntmps137 Tryz.results137 ?_
  intro c hL hc hk
  obtain ⟨hL0, _⟩ := hL
  have hw0 : a0.length < 9223372036854775808 := Nat.lt_succ_of_le hL0
  clear hL0
  simp only [pars, Nat.zero_add]
  iterate 2 refine rS ?_
  refine AWP.cond rfl (fun hb => ?_) (fun hb => ?_)
  · replace hR := ct hR
    refine rS ?_
    refine AWP.ret ?_
    subst hR
    exact es
  · replace hR := cf hR
    refine rS ?_
    refine AWP.ret ?_
    subst hR
    exact es
end N137
def D_impl_signsOf : DF
  | [x0] => some (.str (impl_signsOf (rdS x0)), false, [wS x0])
  | _ => none
theorem D_impl_signsOf_ok : OkD Tryz.prog 137 D_impl_signsOf := by unfold D_impl_signsOf; exact dk N137.den
end Go.Ab

namespace Go.Ab
open Go Go.Proofs
def impl_Character_fits (a0 : Character) : Bool :=
  (bif (a0.Kind == 1) then (((a0.Group.length : Int) == 0) && (a0.Letter == [])) else (bif (a0.Kind == 3) then (((a0.Group.length : Int) == 0) && (a0.Letter == [])) else (bif (a0.Kind == 2) then ((a0.Letter == []) && (impl_isGroup a0.Group)) else (bif (a0.Kind == 4) then ((a0.Letter == []) && (impl_isGroup a0.Group)) else (bif (a0.Kind == 5) then ((a0.Letter == []) && (impl_isGroup a0.Group)) else (bif (a0.Kind == 6) then (bif (a0.Letter == []) then (((a0.Group.length : Int) == 0) || (((a0.Group.length : Int) == 1) && (impl_within (a0.Group.getD 0 default) 2 9))) else ((a0.Letter == [76]) && (slices_Equal_int64 a0.Group ([6] : List Int)))) else (bif (a0.Kind == 7) then (bif (a0.Letter == []) then (((a0.Group.length : Int) == 0) || (((a0.Group.length : Int) == 1) && (impl_within (a0.Group.getD 0 default) 2 9))) else ((a0.Letter == [76]) && (slices_Equal_int64 a0.Group ([6] : List Int)))) else (bif (a0.Kind == 8) then (((impl_signsOf a0.Letter) != []) && ((a0.Group.length : Int) == 0)) else false))))))))
namespace N94
theorem DD : DOk Tryz.prog (Go.Ab.DD [(135, dP D_impl_isGroup), (136, dP D_slices_Equal_int64), (137, dP D_impl_signsOf), (68, dP D_impl_within)]) := DD_cons D_impl_isGroup_ok.e <| DD_cons D_slices_Equal_int64_ok.e <| DD_cons D_impl_signsOf_ok.e <| DD_cons D_impl_within_ok.e <| DD_nil _
theorem dn : type_of% (And.intro @D_impl_isGroup.eq_1 <| And.intro @D_slices_Equal_int64.eq_1 <| And.intro @D_impl_signsOf.eq_1 <| @D_impl_within.eq_1) := by and_intros <;> intros <;> rfl
theorem ol : type_of% (@impl_within.eq_1) := @impl_within.eq_1
theorem den (a0 : Character)  : Den Tryz.prog 94 [.agg (eCharacter a0)] (.bool (impl_Character_fits a0)) := by
  generalize hR : impl_Character_fits a0 = r
  unfold impl_Character_fits at hR
  refine di Tryz.func94 Tryz.ntmps94 Tryz.results94 ?_
  intro c hL hc hk
  obtain ⟨hL0, _⟩ := hL
  have hw0 : bwCharacter a0 := Character_lens a0 hL0
  clear hL0
  simp only [pars, Nat.zero_add]
  iterate 3 refine rS ?_
  refine AWP.cond rfl (fun hb => ?_) (fun hb => ?_)
  · replace hR := ct hR
    refine AWP.skip ?_
    refine AWP.cond rfl (fun hb => ?_) (fun hb => ?_)
    · refine rS ?_
      refine AWP.ret ?_
      subst hR
      exact es
    · exfalso; simp_all
  · replace hR := cf hR
    refine rS ?_
    refine AWP.cond rfl (fun hb => ?_) (fun hb => ?_)
    · replace hR := ct hR
      refine rS ?_
      refine AWP.ret ?_
      subst hR
      exact es
    · replace hR := cf hR
      refine rS ?_
      refine AWP.cond rfl (fun hb => ?_) (fun hb => ?_)
      · replace hR := ct hR
        refine AWP.skip ?_
        refine AWP.cond rfl (fun hb => ?_) (fun hb => ?_)
        · refine rS ?_
          refine AWP.ret ?_
          subst hR
          exact es
        · exfalso; simp_all
      · replace hR := cf hR
        refine rS ?_
        refine AWP.cond rfl (fun hb => ?_) (fun hb => ?_)
        · replace hR := ct hR
          refine AWP.skip ?_
          refine AWP.cond rfl (fun hb => ?_) (fun hb => ?_)
          · refine rS ?_
            refine AWP.ret ?_
            subst hR
            exact es
          · exfalso; simp_all
        · replace hR := cf hR
          refine rS ?_
          refine AWP.cond rfl (fun hb => ?_) (fun hb => ?_)
          · replace hR := ct hR
            refine rS ?_
            refine AWP.ret ?_
            subst hR
            exact es
          · replace hR := cf hR
            refine rS ?_
            refine AWP.cond rfl (fun hb => ?_) (fun hb => ?_)
            · replace hR := ct hR
              refine AWP.skip ?_
              refine AWP.cond rfl (fun hb => ?_) (fun hb => ?_)
              · refine rS ?_
                refine AWP.cond rfl (fun hb => ?_) (fun hb => ?_)
                · replace hR := ct hR
                  refine rS ?_
                  refine AWP.ret ?_
                  subst hR
                  exact es
                · replace hR := cf hR
                  refine rS ?_
                  refine AWP.ret ?_
                  subst hR
                  exact es
              · exfalso; simp_all
            · replace hR := cf hR
              refine rS ?_
              refine AWP.cond rfl (fun hb => ?_) (fun hb => ?_)
              · replace hR := ct hR
                refine rS ?_
                refine AWP.cond rfl (fun hb => ?_) (fun hb => ?_)
                · replace hR := ct hR
                  refine rS ?_
                  refine AWP.ret ?_
                  subst hR
                  exact es
                · replace hR := cf hR
                  refine rS ?_
                  refine AWP.ret ?_
                  subst hR
                  exact es
              · replace hR := cf hR
                refine rS ?_
                refine AWP.cond rfl (fun hb => ?_) (fun hb => ?_)
                · replace hR := ct hR
                  refine rS ?_
                  refine AWP.ret ?_
                  subst hR
                  exact es
                · replace hR := cf hR
                  refine rS ?_
                  refine AWP.ret ?_
                  subst hR
                  exact es
end N94
def D_impl_Character_fits : DF
  | [x0] => some (.bool (impl_Character_fits (rdG dCharacter x0)), false, [wG eCharacter dCharacter x0])
  | _ => none
theorem D_impl_Character_fits_ok : OkD Tryz.prog 94 D_impl_Character_fits := by unfold D_impl_Character_fits; exact dk N94.den
end Go.Ab

namespace Go.Ab
open Go Go.Proofs
def spec_l05Kind (a0 : Int) : Bool :=
  (spec_l00In a0 1 8)
namespace N174
theorem DD : DOk Tryz.prog (Go.Ab.DD [(98, dP D_spec_l00In)]) := DD_cons D_spec_l00In_ok.e <| DD_nil _
theorem dn : type_of% (@D_spec_l00In.eq_1) := by and_intros <;> intros <;> rfl
theorem ol : type_of% (@spec_l00In.eq_1) := @spec_l00In.eq_1
theorem den (a0 : Int)  : Den Tryz.prog 174 [.int .i64 a0] (.bool (spec_l05Kind a0)) := by
  generalize hR : spec_l05Kind a0 = r
  unfold spec_l05Kind at hR
  refine di Tryz.func174 Tryz.ntmps174 Tryz.results174 ?_
  intro c hL hc hk
  clear hL
  simp only [pars, Nat.zero_add]
  iterate 2 refine rS ?_
  refine AWP.ret ?_
  subst hR
  exact es
end N174
def D_spec_l05Kind : DF
  | [x0] => some (.bool (spec_l05Kind (rdI x0)), false, [wI .i64 x0])
  | _ => none
theorem D_spec_l05Kind_ok : OkD Tryz.prog 174 D_spec_l05Kind := by unfold D_spec_l05Kind; exact dk N174.den
end Go.Ab

namespace Go.Ab
open Go Go.Proofs
def spec_l05Shape (a0 : Character) : Bool :=
  (bif ((!(spec_l05Kind a0.Kind)) || (!(spec_l05Colors a0.Colors))) then false else (bif (a0.Kind == 1) then (((a0.Group.length : Int) == 0) && (a0.Letter == [])) else (bif (a0.Kind == 3) then (((a0.Group.length : Int) == 0) && (a0.Letter == [])) else (bif (a0.Kind == 6) then (bif (a0.Letter == [76]) then (((a0.Group.length : Int) == 1) && ((a0.Group.getD 0 default) == 6)) else (((a0.Letter == []) && decide ((a0.Group.length : Int) ≤ 1)) && (spec_l05Group a0.Group))) else (bif (a0.Kind == 7) then (bif (a0.Letter == [76]) then (((a0.Group.length : Int) == 1) && ((a0.Group.getD 0 default) == 6)) else (((a0.Letter == []) && decide ((a0.Group.length : Int) ≤ 1)) && (spec_l05Group a0.Group))) else (bif (a0.Kind == 8) then (((((a0.Group.length : Int) == 0) && ((a0.Letter.length : Int) == 1)) && decide (65 ≤ ((a0.Letter.getD 0 0).toNat : Int))) && decide (((a0.Letter.getD 0 0).toNat : Int) ≤ 90)) else ((a0.Letter == []) && (spec_l05Group a0.Group))))))))
namespace N127
theorem DD : DOk Tryz.prog (Go.Ab.DD [(174, dP D_spec_l05Kind), (175, dP D_spec_l05Colors), (176, dP D_spec_l05Group)]) := DD_cons D_spec_l05Kind_ok.e <| DD_cons D_spec_l05Colors_ok.e <| DD_cons D_spec_l05Group_ok.e <| DD_nil _
theorem dn : type_of% (And.intro @D_spec_l05Kind.eq_1 <| And.intro @D_spec_l05Colors.eq_1 <| @D_spec_l05Group.eq_1) := by and_intros <;> intros <;> rfl
theorem den (a0 : Character)  : Den Tryz.prog 127 [.ep (eCharacter a0)] (.bool (spec_l05Shape a0)) := by
  generalize hR : spec_l05Shape a0 = r
  unfold spec_l05Shape at hR
  refine di Tryz.func127 Tryz.ntmps127 Tryz.results127 ?_
  intro c hL hc hk
  obtain ⟨hL0, _⟩ := hL
  have hw0 : bwCharacter a0 := Character_lens a0 hL0
  clear hL0
  simp only [pars, Nat.zero_add]
  iterate 2 refine rS ?_
  refine AWP.cond rfl (fun hb => ?_) (fun hb => ?_)
  · replace hR := ct hR
    refine rS ?_
    refine AWP.ret ?_
    subst hR
    exact es
  · replace hR := cf hR
    iterate 2 refine rS ?_
    refine AWP.cond rfl (fun hb => ?_) (fun hb => ?_)
    · replace hR := ct hR
      refine AWP.skip ?_
      refine AWP.cond rfl (fun hb => ?_) (fun hb => ?_)
      · refine rS ?_
        refine AWP.ret ?_
        subst hR
        exact es
      · exfalso; simp_all
    · replace hR := cf hR
      refine rS ?_
      refine AWP.cond rfl (fun hb => ?_) (fun hb => ?_)
      · replace hR := ct hR
        refine rS ?_
        refine AWP.ret ?_
        subst hR
        exact es
      · replace hR := cf hR
        refine rS ?_
        refine AWP.cond rfl (fun hb => ?_) (fun hb => ?_)
        · replace hR := ct hR
          refine AWP.skip ?_
          refine AWP.cond rfl (fun hb => ?_) (fun hb => ?_)
          · refine rS ?_
            refine AWP.cond rfl (fun hb => ?_) (fun hb => ?_)
            · replace hR := ct hR
              refine rS ?_
              refine AWP.ret ?_
              subst hR
              exact es
            · replace hR := cf hR
              refine rS ?_
              refine AWP.ret ?_
              subst hR
              exact es
          · exfalso; simp_all
        · replace hR := cf hR
          refine rS ?_
          refine AWP.cond rfl (fun hb => ?_) (fun hb => ?_)
          · replace hR := ct hR
            refine rS ?_
            refine AWP.cond rfl (fun hb => ?_) (fun hb => ?_)
            · replace hR := ct hR
              refine rS ?_
              refine AWP.ret ?_
              subst hR
              exact es
            · replace hR := cf hR
              refine rS ?_
              refine AWP.ret ?_
              subst hR
              exact es
          · replace hR := cf hR
            refine rS ?_
            refine AWP.cond rfl (fun hb => ?_) (fun hb => ?_)
            · replace hR := ct hR
              refine rS ?_
              refine AWP.ret ?_
              subst hR
              exact es
            · replace hR := cf hR
              refine rS ?_
              refine AWP.ret ?_
              subst hR
              exact es
end N127
def D_spec_l05Shape : DF
  | [x0] => some (.bool (spec_l05Shape (rdP dCharacter x0)), false, [wP eCharacter dCharacter x0])
  | _ => none
theorem D_spec_l05Shape_ok : OkD Tryz.prog 127 D_spec_l05Shape := by unfold D_spec_l05Shape; exact dk N127.den
end Go.Ab

namespace Go.Ab
open Go Go.Proofs
theorem signs_eq (a : List UInt8) : impl_signsOf a = if a.length = 1 ∧ 65 ≤ (a.getD 0 0).toNat ∧ (a.getD 0 0).toNat ≤ 90 then codesL.getD ((a.getD 0 0).toNat - 65) [] else [] := by
  unfold impl_signsOf
  by_cases h1 : a.length = 1
  · have c1 : ((a.length : Int) != 1) = false := by rw [h1]; rfl
    rw [c1, less_sing a 65 h1, less_sing a 90 h1, eq_sing a 90 h1]
    have e1 : (65 : UInt8).toNat = 65 := rfl
    have e2 : (90 : UInt8).toNat = 90 := rfl
    rw [e1, e2]
    by_cases h2 : 65 ≤ (a.getD 0 0).toNat ∧ (a.getD 0 0).toNat ≤ 90
    · rw [if_pos ⟨h1, h2⟩, decide_eq_false (by omega)]
      have c2 : (decide ((a.getD 0 0).toNat < 90) || decide ((a.getD 0 0).toNat = 90)) = true := by
        rw [Bool.or_eq_true, decide_eq_true_eq, decide_eq_true_eq]; omega
      rw [c2]
      simp only [Bool.or_self, Bool.not_true, cond_false]
      rw [u8_wrap _ (by omega) (by omega), show ((((a.getD 0 0).toNat : Int) - 65).toNat) = (a.getD 0 0).toNat - 65 by omega]
      rfl
    · rw [if_neg (fun h => h2 h.2)]
      by_cases h3 : (a.getD 0 0).toNat < 65
      · rw [decide_eq_true h3]; rfl
      · have c2 : (decide ((a.getD 0 0).toNat < 90) || decide ((a.getD 0 0).toNat = 90)) = false := by
          rw [decide_eq_false (by omega), decide_eq_false (by omega)]; rfl
        rw [c2, decide_eq_false h3]; rfl
  · have c1 : ((a.length : Int) != 1) = true := by rw [bne_iff_ne]; omega
    rw [c1, if_neg (fun h => h1 h.1)]
    rfl
theorem signs_len (a : List UInt8) : (impl_signsOf a).length ≤ 4 := by
  rw [signs_eq]
  split
  · exact codeL_len _
  · simp
theorem signs_ascii (a : List UInt8) : ∀ x ∈ impl_signsOf a, x.toNat < 128 := by
  intro x hx
  rw [signs_eq] at hx
  split at hx
  · rw [List.getD_eq_getElem?_getD] at hx
    cases h : codesL[(a.getD 0 0).toNat - 65]? with
    | none => rw [h] at hx; simp at hx
    | some y =>
      rw [h] at hx
      rcases (codes_all y (List.mem_of_getElem? h)).2.2 x hx with e | e <;> subst e <;> decide
  · simp at hx
end Go.Ab

namespace Go.Ab
open Go Go.Proofs
theorem one_rng {g : List Int} (h : g.length = 1) (lo hi : Int) (hr : lo ≤ g.getD 0 default ∧ g.getD 0 default ≤ hi) : ∀ v ∈ g, lo ≤ v ∧ v ≤ hi := by
  obtain ⟨x, rfl⟩ := List.length_eq_one_iff.1 h
  intro v hv
  rw [List.mem_singleton] at hv; subst hv
  simpa using hr
theorem nil_rng {g : List Int} (h : (g.length : Int) = 0) : g.length ≤ 4 ∧ ∀ v ∈ g, 1 ≤ v ∧ v ≤ 9 := by
  have : g = [] := List.length_eq_zero_iff.1 (by omega)
  subst this; simp
theorem fits_grp (a : Character) (h : impl_Character_fits a = true) : a.Group.length ≤ 4 ∧ ∀ v ∈ a.Group, 1 ≤ v ∧ v ≤ 9 := by
  unfold impl_Character_fits at h
  simp only [Bool.cond_eq_ite] at h
  repeat' split at h
  all_goals (try simp only [Bool.and_eq_true, Bool.or_eq_true, beq_iff_eq, equal_dec, decide_eq_true_eq, impl_within] at h)
  all_goals first
    | exact nil_rng h.1
    | exact nil_rng h.2
    | (have := (isGroup_iff _).1 h.2; exact ⟨this.1, this.2.1⟩)
    | (rcases h with h | h
       · exact nil_rng h
       · exact ⟨by omega, fun v hv => by have := one_rng (g := a.Group) (by omega) 2 9 h.2 v hv; omega⟩)
    | (rw [h.2]; simp)
    | (cases h)
theorem shape_grp (a : Character) (h : spec_l05Shape a = true) : a.Group.length ≤ 4 ∧ (∀ v ∈ a.Group, 1 ≤ v ∧ v ≤ 9) ∧ (a.Kind = 8 → a.Letter.length = 1 ∧ 65 ≤ (a.Letter.getD 0 0).toNat ∧ (a.Letter.getD 0 0).toNat ≤ 90) := by
  unfold spec_l05Shape at h
  simp only [Bool.cond_eq_ite] at h
  repeat' split at h
  all_goals (try simp only [Bool.and_eq_true, Bool.or_eq_true, beq_iff_eq, decide_eq_true_eq] at *)
  all_goals first
    | (cases h; done)
    | (exact ⟨(nil_rng h.1).1, (nil_rng h.1).2, by intro h8; omega⟩)
    | (exact ⟨by omega, fun v hv => by have := one_rng (g := a.Group) (by omega) 6 6 (by omega) v hv; omega, by intro h8; omega⟩)
    | (have := (l05Group_iff _).1 h.2; exact ⟨this.1, this.2.1, by intro h8; omega⟩)
    | (exact ⟨(nil_rng h.1.1.1).1, (nil_rng h.1.1.1).2, fun _ => ⟨by omega, by omega, by omega⟩⟩)
end Go.Ab

namespace Go.Ab
open Go Go.Proofs
def spec_l05Morse_b1 (a0 : Int) (i1 : Nat) (s1 : List Int) : Except ((List Int)) (List Int) :=
  (bif ((((([[46, 45], [45, 46, 46, 46], [45, 46, 45, 46], [45, 46, 46], [46], [46, 46, 45, 46], [45, 45, 46], [46, 46, 46, 46], [46, 46], [46, 45, 45, 45], [45, 46, 45], [46, 45, 46, 46], [45, 45], [45, 46], [45, 45, 45], [46, 45, 45, 46], [45, 45, 46, 45], [46, 45, 46], [46, 46, 46], [45], [46, 46, 45], [46, 46, 46, 45], [46, 45, 45], [45, 46, 46, 45], [45, 46, 45, 45], [45, 45, 46, 46]] : List (List UInt8)).getD ((IntKind.wrap .u8 (a0 - 65)).toNat) default).getD i1 0).toNat : Int) == 46) then .ok (s1 ++ ([5] : List Int)) else .ok (s1 ++ ([15] : List Int)))
def spec_l05Morse (a0 : Int) : (List Int) :=
  (match loopR (spec_l05Morse_b1 a0) (((([[46, 45], [45, 46, 46, 46], [45, 46, 45, 46], [45, 46, 46], [46], [46, 46, 45, 46], [45, 45, 46], [46, 46, 46, 46], [46, 46], [46, 45, 45, 45], [45, 46, 45], [46, 45, 46, 46], [45, 45], [45, 46], [45, 45, 45], [46, 45, 45, 46], [45, 45, 46, 45], [46, 45, 46], [46, 46, 46], [45], [46, 46, 45], [46, 46, 46, 45], [46, 45, 45], [45, 46, 46, 45], [45, 46, 45, 45], [45, 45, 46, 46]] : List (List UInt8)).getD ((IntKind.wrap .u8 (a0 - 65)).toNat) default).length) - 0) 0 ([] : List Int) with | .error e => e | .ok s1 => s1)
namespace N206
theorem DD : DOk Tryz.prog (Go.Ab.DD []) := DD_nil _
theorem lx {p : Prop} (h : p := by (exact lxx); first | done | fail) : p := h
theorem den (a0 : Int) (hp0 : 65 ≤ a0) (hp1 : a0 ≤ 90) : Den Tryz.prog 206 [.int .u8 a0] (ownL 2 1 eIi64 (spec_l05Morse a0)) := by
  generalize hR : spec_l05Morse a0 = r
  unfold spec_l05Morse at hR
  refine di Tryz.func206 Tryz.ntmps206 Tryz.results206 ?_
  intro c hL hc hk
  clear hL
  simp only [pars, Nat.zero_add]
  have hs9 := code_len (IntKind.wrap .u8 (a0 - 65)).toNat
  have hw9 : IntKind.wrap .u8 (a0 - 65) = a0 - 65 := u8_wrap _ (by omega) (by omega)
  iterate 5 refine rS ?_
  refine AWP.block ?_
  generalize hz1 : loopR (spec_l05Morse_b1 a0) (((([[46, 45], [45, 46, 46, 46], [45, 46, 45, 46], [45, 46, 46], [46], [46, 46, 45, 46], [45, 45, 46], [46, 46, 46, 46], [46, 46], [46, 45, 45, 45], [45, 46, 45], [46, 45, 46, 46], [45, 45], [45, 46], [45, 45, 45], [46, 45, 45, 46], [45, 45, 46, 45], [46, 45, 46], [46, 46, 46], [45], [46, 46, 45], [46, 46, 46, 45], [46, 45, 45], [45, 46, 46, 45], [45, 46, 45, 45], [45, 45, 46, 46]] : List (List UInt8)).getD ((IntKind.wrap .u8 (a0 - 65)).toNat) default).length) - 0) 0 ([] : List Int) = z1 at hR
  refine AWP.range (spec_l05Morse_b1 a0) (fun i1 s1 => ⟨[(4, .str (([[46, 45], [45, 46, 46, 46], [45, 46, 45, 46], [45, 46, 46], [46], [46, 46, 45, 46], [45, 45, 46], [46, 46, 46, 46], [46, 46], [46, 45, 45, 45], [45, 46, 45], [46, 45, 46, 46], [45, 45], [45, 46], [45, 45, 45], [46, 45, 45, 46], [45, 45, 46, 45], [46, 45, 46], [46, 46, 46], [45], [46, 46, 45], [46, 46, 46, 45], [46, 45, 45], [45, 46, 46, 45], [45, 46, 45, 45], [45, 45, 46, 46]] : List (List UInt8)).getD ((IntKind.wrap .u8 (a0 - 65)).toNat) default)), (5, .ref 0 1 0 s1.length), (6, .int .i64 (i1 : Int))], [.arr 2 1 s1.length (fun j => eIi64 (s1.getD j default))]⟩) (fun i1 s1 => s1.length ≤ i1) (((([[46, 45], [45, 46, 46, 46], [45, 46, 45, 46], [45, 46, 46], [46], [46, 46, 45, 46], [45, 45, 46], [46, 46, 46, 46], [46, 46], [46, 45, 45, 45], [45, 46, 45], [46, 45, 46, 46], [45, 45], [45, 46], [45, 45, 45], [46, 45, 45, 46], [45, 45, 46, 45], [46, 45, 46], [46, 46, 46], [45], [46, 46, 45], [46, 46, 46, 45], [46, 45, 45], [45, 46, 46, 45], [45, 46, 45, 45], [45, 45, 46, 46]] : List (List UInt8)).getD ((IntKind.wrap .u8 (a0 - 65)).toNat) default).length)) 0 ([] : List Int) [1] hz1 ot wt sm ?_
  clear hz1
  intro i1 s1 hi1 hW1 hz1
  refine rS ?_
  refine AWP.cond rfl (fun hb => ?_) (fun hb => ?_)
  · have hlt1 : i1 < ((([[46, 45], [45, 46, 46, 46], [45, 46, 45, 46], [45, 46, 46], [46], [46, 46, 45, 46], [45, 45, 46], [46, 46, 46, 46], [46, 46], [46, 45, 45, 45], [45, 46, 45], [46, 45, 46, 46], [45, 45], [45, 46], [45, 45, 45], [46, 45, 45, 46], [45, 45, 46, 45], [46, 45, 46], [46, 46, 46], [45], [46, 46, 45], [46, 46, 46, 45], [46, 45, 45], [45, 46, 46, 45], [45, 46, 45, 45], [45, 45, 46, 46]] : List (List UInt8)).getD ((IntKind.wrap .u8 (a0 - 65)).toNat) default).length) := ot
    rw [loopR_lt hlt1] at hz1; simp only [spec_l05Morse_b1] at hz1
    refine rS ?_
    refine AWP.cond rfl (fun hb => ?_) (fun hb => ?_)
    · simp only [hb, cond_true] at hz1
      iterate 2 refine rS ?_
      exact ⟨_, [2], hlt1, wt, hz1, sm⟩
    · simp only [hb, cond_false] at hz1
      iterate 2 refine rS ?_
      exact ⟨_, [2], hlt1, wt, hz1, sm⟩
  · obtain rfl : i1 = ((([[46, 45], [45, 46, 46, 46], [45, 46, 45, 46], [45, 46, 46], [46], [46, 46, 45, 46], [45, 45, 46], [46, 46, 46, 46], [46, 46], [46, 45, 45, 45], [45, 46, 45], [46, 45, 46, 46], [45, 45], [45, 46], [45, 45, 45], [46, 45, 45, 46], [45, 45, 46, 45], [46, 45, 46], [46, 46, 46], [45], [46, 46, 45], [46, 46, 46, 45], [46, 45, 45], [45, 46, 46, 45], [45, 46, 45, 45], [45, 45, 46, 46]] : List (List UInt8)).getD ((IntKind.wrap .u8 (a0 - 65)).toNat) default).length) := ot
    rw [loopR_ge (Nat.le_refl _)] at hz1; subst hz1; dsimp only at hR
    refine AWP.exit ?_; refine exitTo_here ?_
    refine rS ?_
    refine AWP.ret ?_
    subst hR
    exact es
end N206
def D_spec_l05Morse : DF
  | [x0] => some (ownL 2 1 eIi64 (spec_l05Morse (rdI x0)), false, [wI .u8 x0, 65 ≤ (rdI x0), (rdI x0) ≤ 90])
  | _ => none
def Dz_spec_l05Morse : DF
  | [x0] => some (ownL 2 1 eIi64 (spec_l05Morse (rdI x0)), true, [wI .u8 x0, 65 ≤ (rdI x0), (rdI x0) ≤ 90])
  | _ => none
theorem D_spec_l05Morse_ok : OkD Tryz.prog 206 D_spec_l05Morse := by unfold D_spec_l05Morse; exact dk N206.den
theorem Dz_spec_l05Morse_ok : OkD Tryz.prog 206 Dz_spec_l05Morse := by unfold Dz_spec_l05Morse; exact dk N206.den
end Go.Ab

namespace Go.Ab
open Go
theorem loopR_app {ρ α : Type} (b : Nat → List α → Except ρ (List α)) (f : Nat → List α) : ∀ (n i : Nat) (s : List α), (∀ j s, i ≤ j → j < i + n → b j s = .ok (s ++ f j)) → loopR b n i s = .ok (s ++ (List.range' i n).flatMap f)
  | 0, i, s, _ => by simp [loopR]
  | n + 1, i, s, h => by
    simp only [loopR]
    rw [h i s (Nat.le_refl _) (by omega)]
    simp only
    rw [loopR_app b f n (i + 1) _ (fun j s h1 h2 => h j s (by omega) (by omega)), List.range'_succ, List.flatMap_cons, List.append_assoc]
theorem loopR_sum {ρ : Type} (b : Nat → Int → Except ρ Int) (f : Nat → Int) (B : Int) : ∀ (n i : Nat) (s : Int), (∀ j s, i ≤ j → j < i + n → b j s = .ok (IntKind.wrap .i64 (s + f j))) → (∀ j, i ≤ j → j < i + n → 0 ≤ f j ∧ f j ≤ B) → 0 ≤ s → s + B * n ≤ 9000000000000000000 → 0 ≤ B →
    loopR b n i s = .ok (s + ((List.range' i n).map f).sum)
  | 0, i, s, _, _, _, _, _ => by simp [loopR]
  | n + 1, i, s, h, hf, h0, h1, hB => by
    have hfi := hf i (Nat.le_refl _) (by omega)
    have e : B * ((n + 1 : Nat) : Int) = B * (n : Int) + B := by rw [Int.natCast_succ, Int.mul_add, Int.mul_one]
    have hn : 0 ≤ B * (n : Int) := Int.mul_nonneg hB (by omega)
    simp only [loopR]
    rw [h i s (Nat.le_refl _) (by omega)]
    simp only
    have hw : IntKind.wrap .i64 (s + f i) = s + f i := by rw [IntKind.wrap_i64]; omega
    rw [hw, loopR_sum b f B n (i + 1) _ (fun j s h1 h2 => h j s (by omega) (by omega)) (fun j h1 h2 => hf j (by omega) (by omega)) (by omega) (by omega) hB, List.range'_succ, List.map_cons, List.sum_cons, Int.add_assoc]
theorem loopR_same {ρ σ : Type} {b b' : Nat → σ → Except ρ σ} (n i : Nat) (s : σ) (h : ∀ j u, i ≤ j → j < i + n → b j u = b' j u) : loopR b n i s = loopR b' n i s := loopR_congr0 n i s h
where
  loopR_congr0 {ρ σ : Type} {b b' : Nat → σ → Except ρ σ} : ∀ (n i : Nat) (s : σ), (∀ j u, i ≤ j → j < i + n → b j u = b' j u) → loopR b n i s = loopR b' n i s
  | 0, i, s, _ => rfl
  | n + 1, i, s, h => by
    simp only [loopR]
    rw [h i s (Nat.le_refl _) (by omega)]
    cases b' i s with
    | error r => rfl
    | ok t => exact loopR_congr0 n (i + 1) t (fun j u h1 h2 => h j u (by omega) (by omega))
theorem flat_list {α β : Type} (l : List α) (d : α) (f : α → β) : (List.range' 0 l.length).flatMap (fun j => [f (l.getD j d)]) = l.map f := by
  rw [← List.map_eq_flatMap]
  apply List.ext_getElem
  · simp
  · intro i h1 h2
    simp only [List.length_map] at h2
    simp [List.getD_eq_getElem?_getD, h2]
end Go.Ab
