/- A part of a proof: walks of functions and lemmas of our own. No conditions. -/
import Derived.Test.YtopoomikfjodkaaGreatDoorRAl
import Derived.Lib.Split
import Derived.Lib.IndexLaws
import Derived.Lib.IndexBytes
import Derived.Lib.CountLaws
import Derived.Shelf.Strings.Builder1
import Derived.Shelf.Strings.Builder2
import Derived.Shelf.Strings.OnBuilder
import Derived.Shelf.Small.Strs
import Derived.Shelf.Small.Wraps
import Derived.Shelf.Strings.BuilderF
import Derived.Shelf.Utf8.RuneCount
import Derived.Shelf.Strconv.Itoa0
import Derived.Shelf.Strconv.Itoa1
import Derived.Shelf.LaysM
import Derived.Shelf.Strconv.Itoa2
import Derived.Shelf.Strconv.Itoa3
import Derived.Shelf.Strconv.Itoa4
import Derived.Shelf.Strconv.ParseIntEmpty
import Derived.Shelf.Strconv.Clone
import Derived.Shelf.Strconv.SyntaxError
import Derived.Shelf.LaysC
import Derived.Shelf.Strconv.ToError
import Derived.Shelf.Strconv.Lower
import Derived.Shelf.Strconv.ParseUint10
import Derived.Shelf.Strconv.ParseUint10Empty
import Derived.Shelf.Strconv.ParseUint10Any
import Derived.Shelf.Strconv.ParseInt10
import Derived.Shelf.Strconv.RangeError
import Derived.Shelf.Strconv.ToErrorRange
import Derived.Shelf.Strconv.ParseUintEmpty
import Derived.Shelf.Strconv.ParseUint10b64
import Derived.Shelf.Strconv.ParseUint10b32
import Derived.Shelf.Strconv.ParseUint10b16
import Derived.Shelf.Strconv.ParseUint10b8
import Derived.Shelf.Strconv.ParseUint10At
import Derived.Shelf.Strconv.ParseInt10At64
import Derived.Shelf.Strconv.ParseInt10At32
import Derived.Shelf.Strconv.ParseInt10At16
import Derived.Shelf.Strconv.ParseInt10At8
import Derived.Shelf.Strconv.ParseInt10All
import Derived.Shelf.Strconv.ParseIntPublic10
import Derived.Shelf.Strconv.ErrVarParseInt
import Derived.Shelf.Strings.Search1
import Derived.Shelf.Strings.Search2
import Derived.Shelf.Strings.Search3
import Derived.Shelf.Strings.Cut
import Derived.Shelf.Strings.Count
import Derived.Shelf.Strings.Shaped
import Derived.Shelf.Strings.Prefix
import Derived.Shelf.Strings.Split
import Derived.Shelf.Strings.Fields
import Derived.Shelf.Strings.SplitShaped
import Derived.Shelf.Unicode.Latin
import Derived.Shelf.Unicode.Decode
import Derived.Shelf.Strings.RuneCount
import Derived.Shelf.Strings.Explode
import Derived.Shelf.Bits.Mul64
import Derived.Shelf.Strings.Repeat
import Derived.Shelf.Unicode.DecodeSlow
import Derived.Shelf.Unicode.DecodeAny
import Derived.Shelf.Unicode.Is16White
import Derived.Shelf.Unicode.IsSpaceAny
import Derived.Shelf.Unicode.Is16Any
import Derived.Shelf.Unicode.Is32Any
import Derived.Shelf.Unicode.ExclAny
import Derived.Test.YtopoomikfjodkaaGreatDoorProg
import Derived.Test.YtopoomikfjodkaaGreatDoorRAm
import Derived.Below
import Derived.Lib.ParseIntBTie
import Derived.Lib.ItoaNum
import Derived.Lib.Strings
import Derived.Handy
import Derived.WideShapes
import Derived.ProofKit
import Derived.Test.YtopoomikfjodkaaGreatDoorRAi
set_option linter.unusedSectionVars false
set_option linter.unusedVariables false
set_option linter.unusedSimpArgs false
set_option maxHeartbeats 1000000
namespace Go.Ab
open Go Go.Lib
def yh (c : UInt8) : List UInt8 → List (List UInt8)
  | []=>[[]]
  | b :: l => if b = c then [] :: yh c l else match yh c l with
    | []=>[[b]]
    | x::r=>(b::x)::r
theorem y6f (c : UInt8) : ∀ l, yh c l ≠ []
 | []=>by simp[yh]
 | b::l=>by
  simp only[yh]
  split
  ·simp
  ·split<;>simp
theorem ypb (c : UInt8) : ∀ l : List UInt8, c ∉ l → yh c l = [l]
 | [],_=>rfl
 | b::l,h=>by
  simp only[List.mem_cons,not_or]at h
  rw[yh,if_neg (fun e=>h.1 e.symm),ypb c l h.2]
theorem ybb (c : UInt8) : ∀ (a l : List UInt8), c ∉ a → yh c (a ++ c :: l) = a :: yh c l
 | [],l,_=>by simp[yh]
 | b::a,l,h=>by
  simp only[List.mem_cons,not_or]at h
  rw[List.cons_append,yh,if_neg (fun e=>h.1 e.symm),ybb c a l h.2]
theorem ye5 (c:UInt8):∀ (n:Nat) (s:List UInt8),s.length≤n→splitK [c] 0 (count s [c]) s=yh c s:=by
 intro n
 induction n with
 | zero=>
  intro s h
  have:s=[]:=List.length_eq_zero_iff.1 (by omega)
  subst this
  have hi:index [] [c] = -1:=by rw[index_one];rfl
  rw[count_miss hi]
  rfl
 | succ n ih=>
  intro s h
  have h1:=index_one s c
  by_cases hm:indexByte s c = -1
  ·rw[count_miss (by rw[h1];exact hm)]
   have hn:=indexByte_none hm
   rw[ypb c s (fun hc=>by
    obtain⟨k,hk⟩:=List.getElem?_of_mem hc
    exact hn k hk)]
   rfl
  ·have hge:=indexByte_ge s c
   obtain⟨o,ho⟩:∃ o:Nat,indexByte s c=o:=⟨(indexByte s c).toNat,by omega⟩
   obtain⟨e1,e2⟩:=indexByte_some ho
   have hio:index s [c]=(o:Int):=h1.trans ho
   rw[count_hit (by simp) hio,Nat.add_comm,splitK,if_neg (by rw[hio];simp),hio]
   have hlt:o<s.length:=(List.getElem?_eq_some_iff.1 e1).1
   have hs:s=s.take o++c::s.drop (o+1):=by
    conv=>lhs;rw[← List.take_append_drop o s]
    rw[List.drop_eq_getElem_cons hlt]
    congr 2
    exact(List.getElem?_eq_some_iff.1 e1).2
   have hnot:c∉s.take o:=fun hc=>by
    obtain⟨k,hk⟩:=List.getElem?_of_mem hc
    have hko:k<o:=by
     have:=(List.getElem?_eq_some_iff.1 hk).1
     simp at this;omega
    rw[List.getElem?_take_of_lt hko]at hk
    exact e2 k hko hk
   have hd:s.drop ((o:Int).toNat+[c].length)=s.drop (o+1):=by simp
   rw[hd,show o+[c].length=o+1 from rfl,ih (s.drop (o+1)) (by simp;omega)]
   conv=>rhs;rw[hs]
   rw[ybb c _ _ hnot]
   simp
theorem yx (c : UInt8) : ∀ (l : List UInt8), (yh c l).length ≤ l.length + 1 ∧ ∀ x ∈ yh c l, x.length ≤ l.length
 | []=>by simp[yh]
 | b::l=>by
  obtain⟨h1,h2⟩:=yx c l
  simp only[yh]
  split
  ·simp only[List.length_cons,List.mem_cons]
   refine⟨by omega,fun x hx => ?_⟩
   rcases hx with rfl|hx
   ·simp
   ·have:=h2 x hx;omega
  ·split
   ·simp
   ·rename_i x r he
    rw[he]at h1 h2
    simp only[List.length_cons,List.mem_cons]at h1 ⊢
    refine⟨by omega,fun y hy => ?_⟩
    rcases hy with rfl|hy
    ·have:=h2 x (by simp);simp only[List.length_cons];omega
    ·have:=h2 y (by simp[hy]);omega
end Go.Ab

namespace Go.Proofs
open Go.Shelf
def Tryz.lays156_ren:Go.Shelf.Ren:=⟨fun|156=>83|165=>178|166=>179|169=>180|240=>257|241=>258|276=>319|277=>320|n=>n,fun|31=>122|9=>9|3=>3|4=>4|0=>0|20=>20|72=>209|76=>213|70=>207|37=>22|75=>212|127=>255|164=>282|5=>5|80=>215|n=>n,fun|n=>n⟩
theorem Tryz.lays156 : Go.Proofs.Lays.n156 Tryz.prog Tryz.lays156_ren := {
 mixed:=by kernel_rfl
 f156:=Tryz.func83.trans (congrArg some (by kernel_rfl))
 f165:=Tryz.func178.trans (congrArg some (by kernel_rfl))
 f166:=Tryz.func179.trans (congrArg some (by kernel_rfl))
 f169:=Tryz.func180.trans (congrArg some (by kernel_rfl))
 f240:=Tryz.func257.trans (congrArg some (by kernel_rfl))
 f241:=Tryz.func258.trans (congrArg some (by kernel_rfl))
 f276:=Tryz.func319.trans (congrArg some (by kernel_rfl))
 f277:=Tryz.func320.trans (congrArg some (by kernel_rfl))
 t0:=Tryz.underlying0
 a0:=Tryz.isAgg0
 z0:=Tryz.sizeOf0
 v0:=Tryz.zeroValue0
 t3:=Tryz.underlying3
 a3:=Tryz.isAgg3
 z3:=Tryz.sizeOf3
 v3:=Tryz.zeroValue3
 t4:=Tryz.underlying4
 a4:=Tryz.isAgg4
 z4:=Tryz.sizeOf4
 v4:=Tryz.zeroValue4
 t9:=Tryz.underlying9
 a9:=Tryz.isAgg9
 z9:=Tryz.sizeOf9
 v9:=Tryz.zeroValue9
 t20:=Tryz.underlying20
 a20:=Tryz.isAgg20
 z20:=Tryz.sizeOf20
 v20:=Tryz.zeroValue20
 t31:=Tryz.underlying122
 a31:=Tryz.isAgg122
 z31:=Tryz.sizeOf122
 v31:=Tryz.zeroValue122
 t37:=Tryz.underlying22
 a37:=Tryz.isAgg22
 z37:=Tryz.sizeOf22
 v37:=Tryz.zeroValue22
 t70:=Tryz.underlying207
 a70:=Tryz.isAgg207
 z70:=Tryz.sizeOf207
 v70:=Tryz.zeroValue207
 t72:=Tryz.underlying209
 a72:=Tryz.isAgg209
 z72:=Tryz.sizeOf209
 v72:=Tryz.zeroValue209
 t75:=Tryz.underlying212
 a75:=Tryz.isAgg212
 z75:=Tryz.sizeOf212
 v75:=Tryz.zeroValue212
 t76:=Tryz.underlying213
 a76:=Tryz.isAgg213
 z76:=Tryz.sizeOf213
 v76:=Tryz.zeroValue213
 t127:=Tryz.underlying255
 a127:=Tryz.isAgg255
 z127:=Tryz.sizeOf255
 v127:=Tryz.zeroValue255
 t164:=Tryz.underlying282
 a164:=Tryz.isAgg282
 z164:=Tryz.sizeOf282
 v164:=Tryz.zeroValue282 }
theorem Tryz.Builder_Extra_156 : Builder.Extra Tryz.prog Tryz.lays156_ren := {
 sizeBuilder:=by kernel_rfl
 liesBuilder:=by kernel_rfl
 t5:=Tryz.underlying5
 a5:=Tryz.isAgg5
 z5:=Tryz.sizeOf5
 v5:=Tryz.zeroValue5
 infoByte:=by kernel_rfl
 cellsByte:=by kernel_rfl
 sizeByte:=by kernel_rfl
 neB5:=by decide }
def Tryz.lays137_ren:Go.Shelf.Ren:=⟨fun|137=>265|217=>325|266=>365|n=>n,fun|9=>9|5=>5|3=>3|n=>n,fun|n=>n⟩
theorem Tryz.lays137 : Go.Proofs.Lays.n137 Tryz.prog Tryz.lays137_ren := {
 mixed:=by kernel_rfl
 f137:=Tryz.func265.trans (congrArg some (by kernel_rfl))
 f217:=Tryz.func325.trans (congrArg some (by kernel_rfl))
 f266:=Tryz.func365.trans (congrArg some (by kernel_rfl))
 t3:=Tryz.underlying3
 a3:=Tryz.isAgg3
 z3:=Tryz.sizeOf3
 v3:=Tryz.zeroValue3
 t5:=Tryz.underlying5
 a5:=Tryz.isAgg5
 z5:=Tryz.sizeOf5
 v5:=Tryz.zeroValue5
 t9:=Tryz.underlying9
 a9:=Tryz.isAgg9
 z9:=Tryz.sizeOf9
 v9:=Tryz.zeroValue9 }
def Tryz.lays104_ren:Go.Shelf.Ren:=⟨fun|104=>262|211=>323|207=>324|n=>n,fun|9=>9|4=>4|24=>247|3=>3|n=>n,fun|n=>n⟩
theorem Tryz.lays104 : Go.Proofs.Lays.n104 Tryz.prog Tryz.lays104_ren := {
 mixed:=by kernel_rfl
 f104:=Tryz.func262.trans (congrArg some (by kernel_rfl))
 f207:=Tryz.func324.trans (congrArg some (by kernel_rfl))
 f211:=Tryz.func323.trans (congrArg some (by kernel_rfl))
 t3:=Tryz.underlying3
 a3:=Tryz.isAgg3
 z3:=Tryz.sizeOf3
 v3:=Tryz.zeroValue3
 t4:=Tryz.underlying4
 a4:=Tryz.isAgg4
 z4:=Tryz.sizeOf4
 v4:=Tryz.zeroValue4
 t9:=Tryz.underlying9
 a9:=Tryz.isAgg9
 z9:=Tryz.sizeOf9
 v9:=Tryz.zeroValue9
 t24:=Tryz.underlying247
 a24:=Tryz.isAgg247
 z24:=Tryz.sizeOf247
 v24:=Tryz.zeroValue247 }
def Tryz.laysM173_ren:Go.Shelf.Ren:=⟨fun|173=>219|246=>287|283=>336|284=>337|285=>338|286=>339|129=>371|317=>370|318=>372|319=>373|320=>374|337=>383|338=>384|n=>n,fun|2=>2|3=>3|9=>9|4=>4|171=>293|0=>0|53=>203|37=>22|5=>5|173=>296|212=>329|51=>288|20=>20|213=>330|46=>252|232=>348|233=>349|n=>n,fun|17=>3|18=>8|19=>9|n=>n⟩
theorem Tryz.laysM173 : Go.Proofs.LaysM.n173 Tryz.prog Tryz.laysM173_ren := {
 mixed:=by kernel_rfl
 f129:=Tryz.func371.trans (congrArg some (by kernel_rfl))
 f173:=Tryz.func219.trans (congrArg some (by kernel_rfl))
 f246:=Tryz.func287.trans (congrArg some (by kernel_rfl))
 f283:=Tryz.func336.trans (congrArg some (by kernel_rfl))
 f284:=Tryz.func337.trans (congrArg some (by kernel_rfl))
 f285:=Tryz.func338.trans (congrArg some (by kernel_rfl))
 f286:=Tryz.func339.trans (congrArg some (by kernel_rfl))
 f317:=Tryz.func370.trans (congrArg some (by kernel_rfl))
 f318:=Tryz.func372.trans (congrArg some (by kernel_rfl))
 f319:=Tryz.func373.trans (congrArg some (by kernel_rfl))
 f320:=Tryz.func374.trans (congrArg some (by kernel_rfl))
 f337:=Tryz.func383.trans (congrArg some (by kernel_rfl))
 f338:=Tryz.func384.trans (congrArg some (by kernel_rfl))
 t0:=Tryz.underlying0
 a0:=Tryz.isAgg0
 z0:=Tryz.sizeOf0
 v0:=Tryz.zeroValue0
 t2:=Tryz.underlying2
 a2:=Tryz.isAgg2
 z2:=Tryz.sizeOf2
 v2:=Tryz.zeroValue2
 t3:=Tryz.underlying3
 a3:=Tryz.isAgg3
 z3:=Tryz.sizeOf3
 v3:=Tryz.zeroValue3
 t4:=Tryz.underlying4
 a4:=Tryz.isAgg4
 z4:=Tryz.sizeOf4
 v4:=Tryz.zeroValue4
 t5:=Tryz.underlying5
 a5:=Tryz.isAgg5
 z5:=Tryz.sizeOf5
 v5:=Tryz.zeroValue5
 t9:=Tryz.underlying9
 a9:=Tryz.isAgg9
 z9:=Tryz.sizeOf9
 v9:=Tryz.zeroValue9
 t20:=Tryz.underlying20
 a20:=Tryz.isAgg20
 z20:=Tryz.sizeOf20
 v20:=Tryz.zeroValue20
 t37:=Tryz.underlying22
 a37:=Tryz.isAgg22
 z37:=Tryz.sizeOf22
 v37:=Tryz.zeroValue22
 t46:=Tryz.underlying252
 a46:=Tryz.isAgg252
 z46:=Tryz.sizeOf252
 v46:=Tryz.zeroValue252
 t51:=Tryz.underlying288
 a51:=Tryz.isAgg288
 z51:=Tryz.sizeOf288
 v51:=Tryz.zeroValue288
 t53:=Tryz.underlying203
 a53:=Tryz.isAgg203
 z53:=Tryz.sizeOf203
 v53:=Tryz.zeroValue203
 t171:=Tryz.underlying293
 a171:=Tryz.isAgg293
 z171:=Tryz.sizeOf293
 v171:=Tryz.zeroValue293
 t173:=Tryz.underlying296
 a173:=Tryz.isAgg296
 z173:=Tryz.sizeOf296
 v173:=Tryz.zeroValue296
 t212:=Tryz.underlying329
 a212:=Tryz.isAgg329
 z212:=Tryz.sizeOf329
 v212:=Tryz.zeroValue329
 t213:=Tryz.underlying330
 a213:=Tryz.isAgg330
 z213:=Tryz.sizeOf330
 t232:=Tryz.underlying348
 a232:=Tryz.isAgg348
 z232:=Tryz.sizeOf348
 v232:=Tryz.zeroValue348
 t233:=Tryz.underlying349
 a233:=Tryz.isAgg349
 z233:=Tryz.sizeOf349
 v233:=Tryz.zeroValue349
 g17:=by kernel_rfl
 g18:=by kernel_rfl
 g19:=by kernel_rfl
 i0:=by kernel_rfl
 i2:=by kernel_rfl
 i3:=by kernel_rfl
 i4:=by kernel_rfl
 i5:=by kernel_rfl
 i9:=by kernel_rfl
 i20:=by kernel_rfl
 i37:=by kernel_rfl
 i46:=by kernel_rfl
 i51:=by kernel_rfl
 i53:=by kernel_rfl
 i171:=by kernel_rfl
 i173:=by kernel_rfl
 i212:=by kernel_rfl
 i232:=by kernel_rfl
 i233:=by kernel_rfl
 m17:=by kernel_rfl
 m18:=by kernel_rfl
 m19:=by kernel_rfl }
def Tryz.laysC174_ren:Go.Shelf.Ren:=⟨fun|174=>236|247=>304|245=>305|287=>349|279=>350|280=>351|281=>352|282=>353|321=>376|322=>377|316=>378|171=>380|205=>379|243=>385|246=>287|283=>336|284=>337|285=>338|286=>339|129=>371|317=>370|318=>372|319=>373|320=>374|337=>383|338=>384|n=>n,fun|9=>9|3=>3|2=>2|75=>212|85=>238|4=>4|167=>306|5=>5|53=>203|175=>307|46=>252|168=>309|37=>22|0=>0|210=>335|21=>21|127=>255|145=>347|143=>345|171=>293|173=>296|212=>329|51=>288|20=>20|213=>330|232=>348|233=>349|80=>215|n=>n,fun|15=>4|16=>5|17=>3|18=>8|19=>9|n=>n⟩
theorem Tryz.laysC174 : Go.Proofs.LaysC.n174 Tryz.prog Tryz.laysC174_ren := {
 mixed:=by kernel_rfl
 f129:=Tryz.func371.trans (congrArg some (by kernel_rfl))
 f171:=Tryz.func380.trans (congrArg some (by kernel_rfl))
 f174:=Tryz.func236.trans (congrArg some (by kernel_rfl))
 f205:=Tryz.func379.trans (congrArg some (by kernel_rfl))
 f243:=Tryz.func385.trans (congrArg some (by kernel_rfl))
 f245:=Tryz.func305.trans (congrArg some (by kernel_rfl))
 f246:=Tryz.func287.trans (congrArg some (by kernel_rfl))
 f247:=Tryz.func304.trans (congrArg some (by kernel_rfl))
 f279:=Tryz.func350.trans (congrArg some (by kernel_rfl))
 f280:=Tryz.func351.trans (congrArg some (by kernel_rfl))
 f281:=Tryz.func352.trans (congrArg some (by kernel_rfl))
 f282:=Tryz.func353.trans (congrArg some (by kernel_rfl))
 f283:=Tryz.func336.trans (congrArg some (by kernel_rfl))
 f284:=Tryz.func337.trans (congrArg some (by kernel_rfl))
 f285:=Tryz.func338.trans (congrArg some (by kernel_rfl))
 f286:=Tryz.func339.trans (congrArg some (by kernel_rfl))
 f287:=Tryz.func349.trans (congrArg some (by kernel_rfl))
 f316:=Tryz.func378.trans (congrArg some (by kernel_rfl))
 f317:=Tryz.func370.trans (congrArg some (by kernel_rfl))
 f318:=Tryz.func372.trans (congrArg some (by kernel_rfl))
 f319:=Tryz.func373.trans (congrArg some (by kernel_rfl))
 f320:=Tryz.func374.trans (congrArg some (by kernel_rfl))
 f321:=Tryz.func376.trans (congrArg some (by kernel_rfl))
 f322:=Tryz.func377.trans (congrArg some (by kernel_rfl))
 f337:=Tryz.func383.trans (congrArg some (by kernel_rfl))
 f338:=Tryz.func384.trans (congrArg some (by kernel_rfl))
 t0:=Tryz.underlying0
 a0:=Tryz.isAgg0
 z0:=Tryz.sizeOf0
 v0:=Tryz.zeroValue0
 t2:=Tryz.underlying2
 a2:=Tryz.isAgg2
 z2:=Tryz.sizeOf2
 v2:=Tryz.zeroValue2
 t3:=Tryz.underlying3
 a3:=Tryz.isAgg3
 z3:=Tryz.sizeOf3
 v3:=Tryz.zeroValue3
 t4:=Tryz.underlying4
 a4:=Tryz.isAgg4
 z4:=Tryz.sizeOf4
 v4:=Tryz.zeroValue4
 t5:=Tryz.underlying5
 a5:=Tryz.isAgg5
 z5:=Tryz.sizeOf5
 v5:=Tryz.zeroValue5
 t9:=Tryz.underlying9
 a9:=Tryz.isAgg9
 z9:=Tryz.sizeOf9
 v9:=Tryz.zeroValue9
 t20:=Tryz.underlying20
 a20:=Tryz.isAgg20
 z20:=Tryz.sizeOf20
 v20:=Tryz.zeroValue20
 t21:=Tryz.underlying21
 a21:=Tryz.isAgg21
 z21:=Tryz.sizeOf21
 v21:=Tryz.zeroValue21
 t37:=Tryz.underlying22
 a37:=Tryz.isAgg22
 z37:=Tryz.sizeOf22
 v37:=Tryz.zeroValue22
 t46:=Tryz.underlying252
 a46:=Tryz.isAgg252
 z46:=Tryz.sizeOf252
 v46:=Tryz.zeroValue252
 t51:=Tryz.underlying288
 a51:=Tryz.isAgg288
 z51:=Tryz.sizeOf288
 v51:=Tryz.zeroValue288
 t53:=Tryz.underlying203
 a53:=Tryz.isAgg203
 z53:=Tryz.sizeOf203
 v53:=Tryz.zeroValue203
 t75:=Tryz.underlying212
 a75:=Tryz.isAgg212
 z75:=Tryz.sizeOf212
 v75:=Tryz.zeroValue212
 t85:=Tryz.underlying238
 a85:=Tryz.isAgg238
 z85:=Tryz.sizeOf238
 v85:=Tryz.zeroValue238
 t127:=Tryz.underlying255
 a127:=Tryz.isAgg255
 z127:=Tryz.sizeOf255
 v127:=Tryz.zeroValue255
 t143:=Tryz.underlying345
 a143:=Tryz.isAgg345
 z143:=Tryz.sizeOf345
 v143:=Tryz.zeroValue345
 t145:=Tryz.underlying347
 a145:=Tryz.isAgg347
 z145:=Tryz.sizeOf347
 v145:=Tryz.zeroValue347
 t167:=Tryz.underlying306
 a167:=Tryz.isAgg306
 z167:=Tryz.sizeOf306
 v167:=Tryz.zeroValue306
 t168:=Tryz.underlying309
 a168:=Tryz.isAgg309
 z168:=Tryz.sizeOf309
 v168:=Tryz.zeroValue309
 t171:=Tryz.underlying293
 a171:=Tryz.isAgg293
 z171:=Tryz.sizeOf293
 v171:=Tryz.zeroValue293
 t173:=Tryz.underlying296
 a173:=Tryz.isAgg296
 z173:=Tryz.sizeOf296
 v173:=Tryz.zeroValue296
 t175:=Tryz.underlying307
 a175:=Tryz.isAgg307
 z175:=Tryz.sizeOf307
 v175:=Tryz.zeroValue307
 t210:=Tryz.underlying335
 a210:=Tryz.isAgg335
 z210:=Tryz.sizeOf335
 v210:=Tryz.zeroValue335
 t212:=Tryz.underlying329
 a212:=Tryz.isAgg329
 z212:=Tryz.sizeOf329
 v212:=Tryz.zeroValue329
 t213:=Tryz.underlying330
 a213:=Tryz.isAgg330
 z213:=Tryz.sizeOf330
 t232:=Tryz.underlying348
 a232:=Tryz.isAgg348
 z232:=Tryz.sizeOf348
 v232:=Tryz.zeroValue348
 t233:=Tryz.underlying349
 a233:=Tryz.isAgg349
 z233:=Tryz.sizeOf349
 v233:=Tryz.zeroValue349
 g15:=by kernel_rfl
 g16:=by kernel_rfl
 g17:=by kernel_rfl
 g18:=by kernel_rfl
 g19:=by kernel_rfl
 t80:=Tryz.underlying215
 a80:=Tryz.isAgg215
 z80:=Tryz.sizeOf215
 v80:=Tryz.zeroValue215
 i0:=by kernel_rfl
 i2:=by kernel_rfl
 i3:=by kernel_rfl
 i4:=by kernel_rfl
 i5:=by kernel_rfl
 i9:=by kernel_rfl
 i20:=by kernel_rfl
 i21:=by kernel_rfl
 i37:=by kernel_rfl
 i46:=by kernel_rfl
 i51:=by kernel_rfl
 i53:=by kernel_rfl
 i75:=by kernel_rfl
 i80:=by kernel_rfl
 i85:=by kernel_rfl
 i127:=by kernel_rfl
 i143:=by kernel_rfl
 i145:=by kernel_rfl
 i167:=by kernel_rfl
 i168:=by kernel_rfl
 i171:=by kernel_rfl
 i173:=by kernel_rfl
 i175:=by kernel_rfl
 i210:=by kernel_rfl
 i212:=by kernel_rfl
 i232:=by kernel_rfl
 i233:=by kernel_rfl
 m15:=by kernel_rfl
 m16:=by kernel_rfl
 m17:=by kernel_rfl
 m18:=by kernel_rfl
 m19:=by kernel_rfl
 c0:=by kernel_rfl
 c2:=by kernel_rfl
 c3:=by kernel_rfl
 c4:=by kernel_rfl
 c5:=by kernel_rfl
 c9:=by kernel_rfl
 c20:=by kernel_rfl
 c21:=by kernel_rfl
 c37:=by kernel_rfl
 c46:=by kernel_rfl
 c51:=by kernel_rfl
 c53:=by kernel_rfl
 c75:=by kernel_rfl
 c80:=by kernel_rfl
 c85:=by kernel_rfl
 c127:=by kernel_rfl
 c143:=by kernel_rfl
 c145:=by kernel_rfl
 c167:=by kernel_rfl
 c168:=by kernel_rfl
 c171:=by kernel_rfl
 c173:=by kernel_rfl
 c175:=by kernel_rfl
 c210:=by kernel_rfl
 c212:=by kernel_rfl
 c213:=by kernel_rfl
 c232:=by kernel_rfl
 c233:=by kernel_rfl }
def Tryz.lays144_ren:Go.Shelf.Ren:=⟨fun|144=>286|143=>302|219=>322|217=>325|225=>362|224=>363|267=>364|266=>365|314=>382|n=>n,fun|9=>9|4=>4|3=>3|5=>5|46=>252|146=>298|51=>288|n=>n,fun|1=>2|n=>n⟩
theorem Tryz.lays144 : Go.Proofs.Lays.n144 Tryz.prog Tryz.lays144_ren := {
 mixed:=by kernel_rfl
 f143:=Tryz.func302.trans (congrArg some (by kernel_rfl))
 f144:=Tryz.func286.trans (congrArg some (by kernel_rfl))
 f217:=Tryz.func325.trans (congrArg some (by kernel_rfl))
 f219:=Tryz.func322.trans (congrArg some (by kernel_rfl))
 f224:=Tryz.func363.trans (congrArg some (by kernel_rfl))
 f225:=Tryz.func362.trans (congrArg some (by kernel_rfl))
 f266:=Tryz.func365.trans (congrArg some (by kernel_rfl))
 f267:=Tryz.func364.trans (congrArg some (by kernel_rfl))
 f314:=Tryz.func382.trans (congrArg some (by kernel_rfl))
 t3:=Tryz.underlying3
 a3:=Tryz.isAgg3
 z3:=Tryz.sizeOf3
 v3:=Tryz.zeroValue3
 t4:=Tryz.underlying4
 a4:=Tryz.isAgg4
 z4:=Tryz.sizeOf4
 v4:=Tryz.zeroValue4
 t5:=Tryz.underlying5
 a5:=Tryz.isAgg5
 z5:=Tryz.sizeOf5
 v5:=Tryz.zeroValue5
 t9:=Tryz.underlying9
 a9:=Tryz.isAgg9
 z9:=Tryz.sizeOf9
 v9:=Tryz.zeroValue9
 t46:=Tryz.underlying252
 a46:=Tryz.isAgg252
 z46:=Tryz.sizeOf252
 v46:=Tryz.zeroValue252
 t51:=Tryz.underlying288
 a51:=Tryz.isAgg288
 z51:=Tryz.sizeOf288
 v51:=Tryz.zeroValue288
 t146:=Tryz.underlying298
 a146:=Tryz.isAgg298
 z146:=Tryz.sizeOf298
 v146:=Tryz.zeroValue298
 g1:=by kernel_rfl }
def Tryz.lays145_ren:Go.Shelf.Ren:=⟨fun|145=>184|220=>261|219=>322|217=>325|225=>362|224=>363|267=>364|266=>365|314=>382|n=>n,fun|9=>9|4=>4|59=>217|3=>3|5=>5|46=>252|146=>298|51=>288|n=>n,fun|1=>2|n=>n⟩
theorem Tryz.lays145 : Go.Proofs.Lays.n145 Tryz.prog Tryz.lays145_ren := {
 mixed:=by kernel_rfl
 f145:=Tryz.func184.trans (congrArg some (by kernel_rfl))
 f217:=Tryz.func325.trans (congrArg some (by kernel_rfl))
 f219:=Tryz.func322.trans (congrArg some (by kernel_rfl))
 f220:=Tryz.func261.trans (congrArg some (by kernel_rfl))
 f224:=Tryz.func363.trans (congrArg some (by kernel_rfl))
 f225:=Tryz.func362.trans (congrArg some (by kernel_rfl))
 f266:=Tryz.func365.trans (congrArg some (by kernel_rfl))
 f267:=Tryz.func364.trans (congrArg some (by kernel_rfl))
 f314:=Tryz.func382.trans (congrArg some (by kernel_rfl))
 t3:=Tryz.underlying3
 a3:=Tryz.isAgg3
 z3:=Tryz.sizeOf3
 v3:=Tryz.zeroValue3
 t4:=Tryz.underlying4
 a4:=Tryz.isAgg4
 z4:=Tryz.sizeOf4
 v4:=Tryz.zeroValue4
 t5:=Tryz.underlying5
 a5:=Tryz.isAgg5
 z5:=Tryz.sizeOf5
 v5:=Tryz.zeroValue5
 t9:=Tryz.underlying9
 a9:=Tryz.isAgg9
 z9:=Tryz.sizeOf9
 v9:=Tryz.zeroValue9
 t46:=Tryz.underlying252
 a46:=Tryz.isAgg252
 z46:=Tryz.sizeOf252
 v46:=Tryz.zeroValue252
 t51:=Tryz.underlying288
 a51:=Tryz.isAgg288
 z51:=Tryz.sizeOf288
 v51:=Tryz.zeroValue288
 t59:=Tryz.underlying217
 a59:=Tryz.isAgg217
 z59:=Tryz.sizeOf217
 v59:=Tryz.zeroValue217
 t146:=Tryz.underlying298
 a146:=Tryz.isAgg298
 z146:=Tryz.sizeOf298
 v146:=Tryz.zeroValue298
 g1:=by kernel_rfl }
def Tryz.lays101_ren:Go.Shelf.Ren:=⟨fun|101=>235|208=>303|206=>342|n=>n,fun|9=>9|4=>4|3=>3|n=>n,fun|n=>n⟩
theorem Tryz.lays101 : Go.Proofs.Lays.n101 Tryz.prog Tryz.lays101_ren := {
 mixed:=by kernel_rfl
 f101:=Tryz.func235.trans (congrArg some (by kernel_rfl))
 f206:=Tryz.func342.trans (congrArg some (by kernel_rfl))
 f208:=Tryz.func303.trans (congrArg some (by kernel_rfl))
 t3:=Tryz.underlying3
 a3:=Tryz.isAgg3
 z3:=Tryz.sizeOf3
 v3:=Tryz.zeroValue3
 t4:=Tryz.underlying4
 a4:=Tryz.isAgg4
 z4:=Tryz.sizeOf4
 v4:=Tryz.zeroValue4
 t9:=Tryz.underlying9
 a9:=Tryz.isAgg9
 z9:=Tryz.sizeOf9
 v9:=Tryz.zeroValue9 }
def Tryz.lays102_ren:Go.Shelf.Ren:=⟨fun|102=>187|209=>264|207=>324|n=>n,fun|9=>9|4=>4|3=>3|n=>n,fun|n=>n⟩
theorem Tryz.lays102 : Go.Proofs.Lays.n102 Tryz.prog Tryz.lays102_ren := {
 mixed:=by kernel_rfl
 f102:=Tryz.func187.trans (congrArg some (by kernel_rfl))
 f207:=Tryz.func324.trans (congrArg some (by kernel_rfl))
 f209:=Tryz.func264.trans (congrArg some (by kernel_rfl))
 t3:=Tryz.underlying3
 a3:=Tryz.isAgg3
 z3:=Tryz.sizeOf3
 v3:=Tryz.zeroValue3
 t4:=Tryz.underlying4
 a4:=Tryz.isAgg4
 z4:=Tryz.sizeOf4
 v4:=Tryz.zeroValue4
 t9:=Tryz.underlying9
 a9:=Tryz.isAgg9
 z9:=Tryz.sizeOf9
 v9:=Tryz.zeroValue9 }
def Tryz.lays146_ren:Go.Shelf.Ren:=⟨fun|146=>135|221=>234|268=>300|138=>301|143=>302|195=>346|197=>347|218=>348|219=>322|260=>375|217=>325|225=>362|224=>363|267=>364|266=>365|314=>382|n=>n,fun|9=>9|31=>122|3=>3|4=>4|0=>0|105=>304|21=>21|5=>5|46=>252|119=>256|139=>344|138=>343|146=>298|51=>288|n=>n,fun|1=>2|3=>6|4=>7|n=>n⟩
theorem Tryz.lays146 : Go.Proofs.Lays.n146 Tryz.prog Tryz.lays146_ren := {
 mixed:=by kernel_rfl
 f138:=Tryz.func301.trans (congrArg some (by kernel_rfl))
 f143:=Tryz.func302.trans (congrArg some (by kernel_rfl))
 f146:=Tryz.func135.trans (congrArg some (by kernel_rfl))
 f195:=Tryz.func346.trans (congrArg some (by kernel_rfl))
 f197:=Tryz.func347.trans (congrArg some (by kernel_rfl))
 f217:=Tryz.func325.trans (congrArg some (by kernel_rfl))
 f218:=Tryz.func348.trans (congrArg some (by kernel_rfl))
 f219:=Tryz.func322.trans (congrArg some (by kernel_rfl))
 f221:=Tryz.func234.trans (congrArg some (by kernel_rfl))
 f224:=Tryz.func363.trans (congrArg some (by kernel_rfl))
 f225:=Tryz.func362.trans (congrArg some (by kernel_rfl))
 f260:=Tryz.func375.trans (congrArg some (by kernel_rfl))
 f266:=Tryz.func365.trans (congrArg some (by kernel_rfl))
 f267:=Tryz.func364.trans (congrArg some (by kernel_rfl))
 f268:=Tryz.func300.trans (congrArg some (by kernel_rfl))
 f314:=Tryz.func382.trans (congrArg some (by kernel_rfl))
 t0:=Tryz.underlying0
 a0:=Tryz.isAgg0
 z0:=Tryz.sizeOf0
 v0:=Tryz.zeroValue0
 t3:=Tryz.underlying3
 a3:=Tryz.isAgg3
 z3:=Tryz.sizeOf3
 v3:=Tryz.zeroValue3
 t4:=Tryz.underlying4
 a4:=Tryz.isAgg4
 z4:=Tryz.sizeOf4
 v4:=Tryz.zeroValue4
 t5:=Tryz.underlying5
 a5:=Tryz.isAgg5
 z5:=Tryz.sizeOf5
 v5:=Tryz.zeroValue5
 t9:=Tryz.underlying9
 a9:=Tryz.isAgg9
 z9:=Tryz.sizeOf9
 v9:=Tryz.zeroValue9
 t21:=Tryz.underlying21
 a21:=Tryz.isAgg21
 z21:=Tryz.sizeOf21
 v21:=Tryz.zeroValue21
 t31:=Tryz.underlying122
 a31:=Tryz.isAgg122
 z31:=Tryz.sizeOf122
 v31:=Tryz.zeroValue122
 t46:=Tryz.underlying252
 a46:=Tryz.isAgg252
 z46:=Tryz.sizeOf252
 v46:=Tryz.zeroValue252
 t51:=Tryz.underlying288
 a51:=Tryz.isAgg288
 z51:=Tryz.sizeOf288
 v51:=Tryz.zeroValue288
 t105:=Tryz.underlying304
 a105:=Tryz.isAgg304
 z105:=Tryz.sizeOf304
 v105:=Tryz.zeroValue304
 t119:=Tryz.underlying256
 a119:=Tryz.isAgg256
 z119:=Tryz.sizeOf256
 t138:=Tryz.underlying343
 a138:=Tryz.isAgg343
 z138:=Tryz.sizeOf343
 v138:=Tryz.zeroValue343
 t139:=Tryz.underlying344
 a139:=Tryz.isAgg344
 z139:=Tryz.sizeOf344
 v139:=Tryz.zeroValue344
 t146:=Tryz.underlying298
 a146:=Tryz.isAgg298
 z146:=Tryz.sizeOf298
 v146:=Tryz.zeroValue298
 g1:=by kernel_rfl
 g3:=by kernel_rfl
 g4:=by kernel_rfl }
def Tryz.lays147_ren:Go.Shelf.Ren:=⟨fun|147=>163|221=>234|268=>300|138=>301|143=>302|195=>346|197=>347|218=>348|219=>322|260=>375|217=>325|225=>362|224=>363|267=>364|266=>365|314=>382|n=>n,fun|9=>9|3=>3|31=>122|4=>4|0=>0|105=>304|21=>21|5=>5|46=>252|119=>256|139=>344|138=>343|146=>298|51=>288|n=>n,fun|1=>2|3=>6|4=>7|n=>n⟩
theorem Tryz.lays147 : Go.Proofs.Lays.n147 Tryz.prog Tryz.lays147_ren := {
 mixed:=by kernel_rfl
 f138:=Tryz.func301.trans (congrArg some (by kernel_rfl))
 f143:=Tryz.func302.trans (congrArg some (by kernel_rfl))
 f147:=Tryz.func163.trans (congrArg some (by kernel_rfl))
 f195:=Tryz.func346.trans (congrArg some (by kernel_rfl))
 f197:=Tryz.func347.trans (congrArg some (by kernel_rfl))
 f217:=Tryz.func325.trans (congrArg some (by kernel_rfl))
 f218:=Tryz.func348.trans (congrArg some (by kernel_rfl))
 f219:=Tryz.func322.trans (congrArg some (by kernel_rfl))
 f221:=Tryz.func234.trans (congrArg some (by kernel_rfl))
 f224:=Tryz.func363.trans (congrArg some (by kernel_rfl))
 f225:=Tryz.func362.trans (congrArg some (by kernel_rfl))
 f260:=Tryz.func375.trans (congrArg some (by kernel_rfl))
 f266:=Tryz.func365.trans (congrArg some (by kernel_rfl))
 f267:=Tryz.func364.trans (congrArg some (by kernel_rfl))
 f268:=Tryz.func300.trans (congrArg some (by kernel_rfl))
 f314:=Tryz.func382.trans (congrArg some (by kernel_rfl))
 t0:=Tryz.underlying0
 a0:=Tryz.isAgg0
 z0:=Tryz.sizeOf0
 v0:=Tryz.zeroValue0
 t3:=Tryz.underlying3
 a3:=Tryz.isAgg3
 z3:=Tryz.sizeOf3
 v3:=Tryz.zeroValue3
 t4:=Tryz.underlying4
 a4:=Tryz.isAgg4
 z4:=Tryz.sizeOf4
 v4:=Tryz.zeroValue4
 t5:=Tryz.underlying5
 a5:=Tryz.isAgg5
 z5:=Tryz.sizeOf5
 v5:=Tryz.zeroValue5
 t9:=Tryz.underlying9
 a9:=Tryz.isAgg9
 z9:=Tryz.sizeOf9
 v9:=Tryz.zeroValue9
 t21:=Tryz.underlying21
 a21:=Tryz.isAgg21
 z21:=Tryz.sizeOf21
 v21:=Tryz.zeroValue21
 t31:=Tryz.underlying122
 a31:=Tryz.isAgg122
 z31:=Tryz.sizeOf122
 v31:=Tryz.zeroValue122
 t46:=Tryz.underlying252
 a46:=Tryz.isAgg252
 z46:=Tryz.sizeOf252
 v46:=Tryz.zeroValue252
 t51:=Tryz.underlying288
 a51:=Tryz.isAgg288
 z51:=Tryz.sizeOf288
 v51:=Tryz.zeroValue288
 t105:=Tryz.underlying304
 a105:=Tryz.isAgg304
 z105:=Tryz.sizeOf304
 v105:=Tryz.zeroValue304
 t119:=Tryz.underlying256
 a119:=Tryz.isAgg256
 z119:=Tryz.sizeOf256
 t138:=Tryz.underlying343
 a138:=Tryz.isAgg343
 z138:=Tryz.sizeOf343
 v138:=Tryz.zeroValue343
 t139:=Tryz.underlying344
 a139:=Tryz.isAgg344
 z139:=Tryz.sizeOf344
 v139:=Tryz.zeroValue344
 t146:=Tryz.underlying298
 a146:=Tryz.isAgg298
 z146:=Tryz.sizeOf298
 v146:=Tryz.zeroValue298
 g1:=by kernel_rfl
 g3:=by kernel_rfl
 g4:=by kernel_rfl }
def Tryz.lays157_ren:Go.Shelf.Ren:=⟨fun|157=>183|229=>259|199=>260|261=>321|311=>360|312=>361|n=>n,fun|9=>9|31=>122|3=>3|5=>5|4=>4|119=>256|0=>0|40=>258|152=>285|21=>21|154=>287|51=>288|141=>290|196=>317|193=>314|198=>320|49=>318|194=>315|201=>323|226=>338|46=>252|227=>339|n=>n,fun|0=>0|6=>1|n=>n⟩
theorem Tryz.lays157 : Go.Proofs.Lays.n157 Tryz.prog Tryz.lays157_ren := {
 mixed:=by kernel_rfl
 f157:=Tryz.func183.trans (congrArg some (by kernel_rfl))
 f199:=Tryz.func260.trans (congrArg some (by kernel_rfl))
 f229:=Tryz.func259.trans (congrArg some (by kernel_rfl))
 f261:=Tryz.func321.trans (congrArg some (by kernel_rfl))
 f311:=Tryz.func360.trans (congrArg some (by kernel_rfl))
 f312:=Tryz.func361.trans (congrArg some (by kernel_rfl))
 t0:=Tryz.underlying0
 a0:=Tryz.isAgg0
 z0:=Tryz.sizeOf0
 v0:=Tryz.zeroValue0
 t3:=Tryz.underlying3
 a3:=Tryz.isAgg3
 z3:=Tryz.sizeOf3
 v3:=Tryz.zeroValue3
 t4:=Tryz.underlying4
 a4:=Tryz.isAgg4
 z4:=Tryz.sizeOf4
 v4:=Tryz.zeroValue4
 t5:=Tryz.underlying5
 a5:=Tryz.isAgg5
 z5:=Tryz.sizeOf5
 v5:=Tryz.zeroValue5
 t9:=Tryz.underlying9
 a9:=Tryz.isAgg9
 z9:=Tryz.sizeOf9
 v9:=Tryz.zeroValue9
 t21:=Tryz.underlying21
 a21:=Tryz.isAgg21
 z21:=Tryz.sizeOf21
 v21:=Tryz.zeroValue21
 t31:=Tryz.underlying122
 a31:=Tryz.isAgg122
 z31:=Tryz.sizeOf122
 v31:=Tryz.zeroValue122
 t40:=Tryz.underlying258
 a40:=Tryz.isAgg258
 z40:=Tryz.sizeOf258
 v40:=Tryz.zeroValue258
 t46:=Tryz.underlying252
 a46:=Tryz.isAgg252
 z46:=Tryz.sizeOf252
 v46:=Tryz.zeroValue252
 t49:=Tryz.underlying318
 a49:=Tryz.isAgg318
 z49:=Tryz.sizeOf318
 v49:=Tryz.zeroValue318
 t51:=Tryz.underlying288
 a51:=Tryz.isAgg288
 z51:=Tryz.sizeOf288
 v51:=Tryz.zeroValue288
 t119:=Tryz.underlying256
 a119:=Tryz.isAgg256
 z119:=Tryz.sizeOf256
 t141:=Tryz.underlying290
 a141:=Tryz.isAgg290
 z141:=Tryz.sizeOf290
 v141:=Tryz.zeroValue290
 t152:=Tryz.underlying285
 a152:=Tryz.isAgg285
 z152:=Tryz.sizeOf285
 v152:=Tryz.zeroValue285
 t154:=Tryz.underlying287
 a154:=Tryz.isAgg287
 z154:=Tryz.sizeOf287
 v154:=Tryz.zeroValue287
 t193:=Tryz.underlying314
 a193:=Tryz.isAgg314
 z193:=Tryz.sizeOf314
 v193:=Tryz.zeroValue314
 t194:=Tryz.underlying315
 a194:=Tryz.isAgg315
 z194:=Tryz.sizeOf315
 v194:=Tryz.zeroValue315
 t196:=Tryz.underlying317
 a196:=Tryz.isAgg317
 z196:=Tryz.sizeOf317
 v196:=Tryz.zeroValue317
 t198:=Tryz.underlying320
 a198:=Tryz.isAgg320
 z198:=Tryz.sizeOf320
 v198:=Tryz.zeroValue320
 t201:=Tryz.underlying323
 a201:=Tryz.isAgg323
 z201:=Tryz.sizeOf323
 v201:=Tryz.zeroValue323
 t226:=Tryz.underlying338
 a226:=Tryz.isAgg338
 z226:=Tryz.sizeOf338
 v226:=Tryz.zeroValue338
 t227:=Tryz.underlying339
 a227:=Tryz.isAgg339
 z227:=Tryz.sizeOf339
 v227:=Tryz.zeroValue339
 g0:=by kernel_rfl
 g6:=by kernel_rfl }
def Tryz.lays105_ren:Go.Shelf.Ren:=⟨fun|105=>222|212=>288|99=>289|165=>178|166=>179|170=>290|169=>180|263=>340|264=>341|206=>342|240=>257|241=>258|276=>319|277=>320|n=>n,fun|9=>9|3=>3|4=>4|20=>20|0=>0|46=>252|109=>271|5=>5|72=>209|76=>213|51=>288|146=>298|53=>203|148=>300|70=>207|37=>22|75=>212|127=>255|164=>282|80=>215|n=>n,fun|n=>n⟩
theorem Tryz.lays105 : Go.Proofs.Lays.n105 Tryz.prog Tryz.lays105_ren := {
 mixed:=by kernel_rfl
 f99:=Tryz.func289.trans (congrArg some (by kernel_rfl))
 f105:=Tryz.func222.trans (congrArg some (by kernel_rfl))
 f165:=Tryz.func178.trans (congrArg some (by kernel_rfl))
 f166:=Tryz.func179.trans (congrArg some (by kernel_rfl))
 f169:=Tryz.func180.trans (congrArg some (by kernel_rfl))
 f170:=Tryz.func290.trans (congrArg some (by kernel_rfl))
 f206:=Tryz.func342.trans (congrArg some (by kernel_rfl))
 f212:=Tryz.func288.trans (congrArg some (by kernel_rfl))
 f240:=Tryz.func257.trans (congrArg some (by kernel_rfl))
 f241:=Tryz.func258.trans (congrArg some (by kernel_rfl))
 f263:=Tryz.func340.trans (congrArg some (by kernel_rfl))
 f264:=Tryz.func341.trans (congrArg some (by kernel_rfl))
 f276:=Tryz.func319.trans (congrArg some (by kernel_rfl))
 f277:=Tryz.func320.trans (congrArg some (by kernel_rfl))
 t0:=Tryz.underlying0
 a0:=Tryz.isAgg0
 z0:=Tryz.sizeOf0
 v0:=Tryz.zeroValue0
 t3:=Tryz.underlying3
 a3:=Tryz.isAgg3
 z3:=Tryz.sizeOf3
 v3:=Tryz.zeroValue3
 t4:=Tryz.underlying4
 a4:=Tryz.isAgg4
 z4:=Tryz.sizeOf4
 v4:=Tryz.zeroValue4
 t5:=Tryz.underlying5
 a5:=Tryz.isAgg5
 z5:=Tryz.sizeOf5
 v5:=Tryz.zeroValue5
 t9:=Tryz.underlying9
 a9:=Tryz.isAgg9
 z9:=Tryz.sizeOf9
 v9:=Tryz.zeroValue9
 t20:=Tryz.underlying20
 a20:=Tryz.isAgg20
 z20:=Tryz.sizeOf20
 v20:=Tryz.zeroValue20
 t37:=Tryz.underlying22
 a37:=Tryz.isAgg22
 z37:=Tryz.sizeOf22
 v37:=Tryz.zeroValue22
 t46:=Tryz.underlying252
 a46:=Tryz.isAgg252
 z46:=Tryz.sizeOf252
 v46:=Tryz.zeroValue252
 t51:=Tryz.underlying288
 a51:=Tryz.isAgg288
 z51:=Tryz.sizeOf288
 v51:=Tryz.zeroValue288
 t53:=Tryz.underlying203
 a53:=Tryz.isAgg203
 z53:=Tryz.sizeOf203
 v53:=Tryz.zeroValue203
 t70:=Tryz.underlying207
 a70:=Tryz.isAgg207
 z70:=Tryz.sizeOf207
 v70:=Tryz.zeroValue207
 t72:=Tryz.underlying209
 a72:=Tryz.isAgg209
 z72:=Tryz.sizeOf209
 v72:=Tryz.zeroValue209
 t75:=Tryz.underlying212
 a75:=Tryz.isAgg212
 z75:=Tryz.sizeOf212
 v75:=Tryz.zeroValue212
 t76:=Tryz.underlying213
 a76:=Tryz.isAgg213
 z76:=Tryz.sizeOf213
 v76:=Tryz.zeroValue213
 t109:=Tryz.underlying271
 a109:=Tryz.isAgg271
 z109:=Tryz.sizeOf271
 v109:=Tryz.zeroValue271
 t127:=Tryz.underlying255
 a127:=Tryz.isAgg255
 z127:=Tryz.sizeOf255
 v127:=Tryz.zeroValue255
 t146:=Tryz.underlying298
 a146:=Tryz.isAgg298
 z146:=Tryz.sizeOf298
 v146:=Tryz.zeroValue298
 t148:=Tryz.underlying300
 a148:=Tryz.isAgg300
 z148:=Tryz.sizeOf300
 v148:=Tryz.zeroValue300
 t164:=Tryz.underlying282
 a164:=Tryz.isAgg282
 z164:=Tryz.sizeOf282
 v164:=Tryz.zeroValue282 }
theorem Tryz.Builder_Extra_105 : Builder.Extra Tryz.prog Tryz.lays105_ren := {
 sizeBuilder:=by kernel_rfl
 liesBuilder:=by kernel_rfl
 t5:=Tryz.underlying5
 a5:=Tryz.isAgg5
 z5:=Tryz.sizeOf5
 v5:=Tryz.zeroValue5
 infoByte:=by kernel_rfl
 cellsByte:=by kernel_rfl
 sizeByte:=by kernel_rfl
 neB5:=by decide }
end Go.Proofs

namespace Go.Ab
open Go Go.Proofs
theorem ygo (w:World) (k:Nat) (os:Array Obj):Grow w (Go.Sort.grow (w.drewN k) os):=by
 refine⟨rfl,rfl,rfl,?_,fun i hi => ?_⟩
 ·show w.heap.size≤(w.heap++os).size
  simp
 ·show(w.heap++os)[i]? = w.heap[i]?
  rw[Array.getElem?_append_left hi]
open Go.RowKit in
theorem y6g {w w':World} (h:Below w.heap.size w w'):Grow w w':=⟨h.os,h.tape,h.output,h.size,fun k hk=>h.block k hk⟩
theorem ywd (u:Nat):(Go.Lib.decDigits u).length≤u / 2+1:=by
 induction u using Nat.strongRecOn with
 | ind u ih=>
  rw[Go.Lib.decDigits]
  split
  ·simp
  ·have:=ih (u / 10) (by omega)
   simp only[List.length_append,List.length_cons,List.length_nil]
   omega
theorem ys5 {n:Int} (h1 : -9223372036854775808≤n) (h2:n≤9223372036854775807):(Go.Lib.itoa n).length≤maxLen:=by
 unfold Go.Lib.itoa maxLen
 split
 ·have:=ywd n.natAbs
  simp only[List.length_cons]
  omega
 ·have:=ywd n.toNat
  omega
theorem yql (l:List UInt8) (c:Nat):(Go.Lib.repeatL l c).length=l.length * c:=by
 rw[Go.Lib.repeatL_length,Nat.mul_comm]
end Go.Ab

namespace Go.Ab
open Go
def y4b (l:List UInt8):Prop:=∀ b∈l,48≤b.toNat∧b.toNat≤57
instance (l:List UInt8):Decidable (y4b l):=by unfold y4b;infer_instance
def digV (n:Nat) (l:List UInt8):Nat:=l.foldl (fun k b=>10 * k+(b.toNat-48)) n
theorem yhd (n:Nat):digV n []=n:=List.foldl_nil
theorem y9 (n:Nat) (c:UInt8) (l:List UInt8):digV n (c::l)=digV (10 * n+(c.toNat-48)) l:=List.foldl_cons ..
theorem yps (b:UInt8) (l:List UInt8) (n:Nat):digV n (l++[b])=10 * digV n l+(b.toNat-48):=by
 unfold digV
 rw[List.foldl_append,List.foldl_cons,List.foldl_nil]
theorem yfu (l:List UInt8):∀ (n:Nat),y4b l→digV n l<(n+1) * 10 ^ l.length:=by
 induction l with
 | nil=>intro n _;rw[yhd,List.length_nil,Nat.pow_zero];omega
 | cons c l ih=>
  intro n h
  have hc:=h c (by simp)
  have h1:=ih (10 * n+(c.toNat-48)) (fun b hb=>h b (by simp[hb]))
  rw[y9,List.length_cons,Nat.pow_succ]
  have h2:(10 * n+(c.toNat-48)+1) * 10 ^ l.length≤((n+1) * 10) * 10 ^ l.length:=Nat.mul_le_mul_right _ (by omega)
  have h3:((n+1) * 10) * 10 ^ l.length=(n+1) * (10 ^ l.length * 10):=by rw[Nat.mul_assoc,Nat.mul_comm 10]
  omega
theorem ygp (l:List UInt8):∀ (n:Nat),n * 10 ^ l.length≤digV n l:=by
 induction l with
 | nil=>intro n;rw[yhd,List.length_nil,Nat.pow_zero];omega
 | cons c l ih=>
  intro n
  have h1:=ih (10 * n+(c.toNat-48))
  rw[y9,List.length_cons,Nat.pow_succ]
  have h2:(n * 10) * 10 ^ l.length≤(10 * n+(c.toNat-48)) * 10 ^ l.length:=Nat.mul_le_mul_right _ (by omega)
  have h3:(n * 10) * 10 ^ l.length=n * (10 ^ l.length * 10):=by rw[Nat.mul_assoc,Nat.mul_comm 10]
  omega
theorem y2s {b:UInt8} (h1:48≤b.toNat) (h2:b.toNat≤57):UInt8.ofNat (48+(b.toNat-48))=b:=by
 apply UInt8.toNat_inj.1
 rw[UInt8.toNat_ofNat']
 omega
theorem ymb (m:Nat) (h:¬ m<10):Lib.decDigits m=Lib.decDigits (m / 10)++[UInt8.ofNat (48+m % 10)]:=by
 rw[Lib.decDigits,dif_neg h]
theorem yom:∀ (n:Nat) (l:List UInt8),l.length=n→y4b l→l≠[]→(l.getD 0 0≠48∨l.length=1)→Lib.decDigits (digV 0 l)=l:=by
 intro n
 induction n using Nat.strongRecOn with
 | ind n ih=>
  intro l hl hd hne hh
  rcases List.eq_nil_or_concat l with rfl|⟨r,b,he⟩
  ·exact absurd rfl hne
  ·rw[List.concat_eq_append]at he
   subst he
   have hb:=hd b (by simp)
   have hdr:y4b r:=fun c hc=>hd c (by simp[hc])
   rw[yps]
   by_cases hr:r=[]
   ·subst hr
    simp only[yhd,Nat.mul_zero,Nat.zero_add,List.nil_append]
    rw[Lib.decDigits_one (by omega),y2s hb.1 hb.2]
   ·obtain⟨c,t,rfl⟩:=List.exists_cons_of_ne_nil hr
    have hc:=hdr c (by simp)
    have hne48:c≠48:=by
     rcases hh with h|h
     ·simpa using h
     ·simp at h
    have hc1:49≤c.toNat:=by
     have:c.toNat≠48:=fun e=>hne48 (UInt8.toNat_inj.1 (by rw[e];rfl))
     omega
    have hpos:1≤digV 0 (c::t):=by
     have h1:=ygp t (10 * 0+(c.toNat-48))
     have h2:1≤10 ^ t.length:=Nat.one_le_pow _ _ (by decide)
     have h3:1 * 1≤(10 * 0+(c.toNat-48)) * 10 ^ t.length:=Nat.mul_le_mul (by omega) h2
     rw[y9]
     omega
    have hI:=ih (c::t).length (by simp at hl ⊢;omega) (c::t) rfl hdr (by simp) (.inl (by simpa using hne48))
    rw[ymb _ (by omega),show(10 * digV 0 (c::t)+(b.toNat-48)) / 10=digV 0 (c::t)by omega,hI,show(10 * digV 0 (c::t)+(b.toNat-48)) % 10=b.toNat-48 by omega,y2s hb.1 hb.2]
theorem yco (d:Nat) (h:d<10):(UInt8.ofNat (48+d)).toNat=48+d:=by
 rw[UInt8.toNat_ofNat'];omega
theorem y7 (m:Nat):y4b (Lib.decDigits m)∧digV 0 (Lib.decDigits m)=m∧Lib.decDigits m≠[]∧(1≤m→(Lib.decDigits m).getD 0 0≠48):=by
 induction m using Nat.strongRecOn with
 | ind m ih=>
  by_cases h:m<10
  ·rw[Lib.decDigits_one h]
   refine⟨fun b hb => ?_,?_,by simp,fun h1 => ?_⟩
   ·simp only[List.mem_singleton]at hb
    subst hb
    rw[yco m h];omega
   ·rw[y9,yhd,yco m h];omega
   ·intro e
    have e2:(UInt8.ofNat (48+m)).toNat=48:=by
     have:(UInt8.ofNat (48+m))=48:=by simpa using e
     rw[this];rfl
    rw[yco m h]at e2
    omega
  ·obtain⟨i1,i2,i3,i4⟩:=ih (m / 10) (by omega)
   rw[ymb m h]
   refine⟨fun b hb => ?_,?_,by simp,fun _ => ?_⟩
   ·rcases List.mem_append.1 hb with hb|hb
    ·exact i1 b hb
    ·simp only[List.mem_singleton]at hb
     subst hb
     rw[yco _ (by omega)];omega
   ·rw[yps,i2,yco _ (by omega)];omega
   ·obtain⟨c,t,e⟩:=List.exists_cons_of_ne_nil i3
    have:=i4 (by omega)
    rw[e]at this ⊢
    simpa using this
theorem y0b (m:Nat):(Lib.decDigits m).length≤18↔m<1000000000000000000:=by
 obtain⟨h1,h2,h3,h4⟩:=y7 m
 constructor
 ·intro h
  have:=yfu (Lib.decDigits m) 0 h1
  rw[h2]at this
  have h5:10 ^ (Lib.decDigits m).length≤10 ^ 18:=Nat.pow_le_pow_right (by decide) h
  have h6:(10:Nat) ^ 18=1000000000000000000:=by decide
  omega
 ·intro h
  by_cases hl:(Lib.decDigits m).length≤18
  ·exact hl
  ·exfalso
   obtain⟨c,t,e⟩:=List.exists_cons_of_ne_nil h3
   have hm:1≤m:=by
    by_cases h0:m=0
    ·subst h0;rw[Lib.decDigits_one (by decide)]at hl;simp at hl
    ·omega
   have h48:=h4 hm
   rw[e]at h48 h1 h2 hl
   have hc:=h1 c (by simp)
   have hc1:49≤c.toNat:=by
    have:c.toNat≠48:=fun e2=>h48 (by
     have:c=48:=UInt8.toNat_inj.1 (by rw[e2];rfl)
     simp[this])
    omega
   have h5:=ygp t (10 * 0+(c.toNat-48))
   have h6:digV 0 (c::t)=digV (10 * 0+(c.toNat-48)) t:=y9 ..
   have h7:10 ^ 18≤10 ^ t.length:=Nat.pow_le_pow_right (by decide) (by simp at hl;omega)
   have h8:(10:Nat) ^ 18=1000000000000000000:=by decide
   have h9:1 * 10 ^ t.length≤(10 * 0+(c.toNat-48)) * 10 ^ t.length:=Nat.mul_le_mul_right _ (by omega)
   omega
theorem ytn (M:Nat) (l:List UInt8):∀ (n:Nat),y4b l→digV n l≤M→M<18446744073709551616→Lib.parseUintM M n l=.ok (digV n l):=by
 induction l with
 | nil=>intro n _ _ _;rw[yhd,Lib.parseUintM]
 | cons c l ih=>
  intro n h hM h64
  have hc:=h c (by simp)
  have h1:=ygp l (10 * n+(c.toNat-48))
  have h2:1≤10 ^ l.length:=Nat.one_le_pow _ _ (by decide)
  have h3:(10 * n+(c.toNat-48)) * 1≤(10 * n+(c.toNat-48)) * 10 ^ l.length:=Nat.mul_le_mul_left _ h2
  rw[y9]at hM ⊢
  rw[Lib.parseUintM,if_pos hc,if_neg (by omega),if_neg (by omega),Nat.mul_comm n 10]
  exact ih _ (fun b hb=>h b (by simp[hb])) hM h64
end Go.Ab

namespace Go.Ab
open Go Go.Proofs Go.RowKit
def yac (s:List UInt8):Int×Bool:=
 if 18 < (Go.Lib.trimPrefix s [45]).length then (0, false) else match Go.Lib.parseIntB 64 s with
  | .ok v=>if Go.Lib.itoa v=s then(v,true)else(0,false)
  | _=>(0,false)
theorem Grow.trans' {a b c:World} (h1:Grow a b) (h2:Grow b c):Grow a c:=
 ⟨h2.os.trans h1.os,h2.tape.trans h1.tape,h2.output.trans h1.output,Nat.le_trans h1.size h2.size,fun k hk=>(h2.block k (Nat.lt_of_lt_of_le hk h1.size)).trans (h1.block k hk)⟩
theorem Grow.refl' (a:World):Grow a a:=⟨rfl,rfl,rfl,Nat.le_refl _,fun _ _=>rfl⟩
theorem ye7 {w w':World} (h:y6r w) (hg:Grow w w'):y6r w':=
 inv0.stable w w' h hg.os fun b hb=>hg.block b (inv0.inside w h b hb)
theorem y5z (s:ByteArray) (w:World):Calls Tryz.prog 235 #[.string s,.string ⟨#[45]⟩] w fun e w'=>e=.returned (.string ⟨(Go.Lib.trimPrefix s.data.toList [45]).toArray⟩)∧w'=w:=
 Any.strings_TrimPrefix Tryz.lays101 s ⟨#[45]⟩ w
theorem ya0 (w:World) (e:TypeId) (t:ByteArray):Grow w (Go.Lib.bytesWorld w e t):=by
 unfold Go.Lib.bytesWorld World.freeze
 rw[if_neg (by decide)]
 have hs:(w.drew.alloc (.cells (Go.Lib.bytesCells w e t) e)).heap.size=w.heap.size+1:=by
  show(w.heap.push _).size=_
  simp
 refine⟨rfl,rfl,rfl,?_,fun k hk => ?_⟩
 ·show w.heap.size≤(Array.modify _ _ _).size
  rw[Array.size_modify,hs];omega
 ·show(Array.modify _ _ _)[k]? = _
  rw[Array.getElem?_modify,if_neg (by show ¬ w.heap.size=k;omega)]
  show(w.heap.push _)[k]? = _
  rw[Array.getElem?_push,if_neg (by omega)]
theorem ydv (s:ByteArray) (w:World) (hs:s.size≤1048576) (hw:y6r w):Calls Tryz.prog 236 #[.string s,.int .i64 10,.int .i64 64] w fun e w'=>
  Grow w w'∧((∃ v,Go.Lib.parseIntB 64 s.data.toList=.ok v∧e=.returned (.tuple #[.int .i64 v,.nilIface]))∨((∀ v,Go.Lib.parseIntB 64 s.data.toList≠.ok v)∧∃ v t p,e=.returned (.tuple #[.int .i64 v,.iface t p]))):=by
 cases h:Go.Lib.parseIntB 64 s.data.toList with
 | ok v=>
  refine(Any.strconv_ParseInt_10_at64_ok Tryz.laysC174 s (by omega) v h w).mono ?_
  rintro e w' ⟨rfl,hw'⟩
  refine⟨?_,.inl ⟨v,rfl,rfl⟩⟩
  rcases hw' with rfl|⟨t,rfl⟩
  ·exact Grow.refl' _
  ·exact ya0 _ _ _
 | range=>
  obtain⟨te,pe,hc⟩:=hw.2.2.1
  refine(Any.strconv_ParseInt_10_at64_range Tryz.laysC174 s (by omega) h _ w hc (.inr ⟨te,pe,rfl⟩)).mono ?_
  rintro e w' ⟨N,rfl,_,_,hB⟩
  exact⟨y6g hB,.inr ⟨by simp,_,_,_,rfl⟩⟩
 | _ =>
  obtain⟨te,pe,hc⟩:=hw.2.1
  refine(Any.strconv_ParseInt_10_at64_syntax Tryz.laysC174 s (by omega) h _ w hc (.inr ⟨te,pe,rfl⟩)).mono ?_
  rintro e w' ⟨N,rfl,_,_,hB⟩
  exact⟨y6g hB,.inr ⟨by simp,_,_,_,rfl⟩⟩
theorem yvt (n:Int) (w:World) (h0 : -9223372036854775808≤n) (h1:n≤9223372036854775807) (hw:y6r w):Calls Tryz.prog 219 #[.int .i64 n,.int .i64 10] w fun e w'=>
  e=.returned (.string ⟨(Go.Lib.itoa n).toArray⟩)∧Grow w w':=by
 refine(Any.strconv_FormatInt_10 Tryz.laysM173 n h0 h1 w hw.1.1).mono ?_
 rintro e w' ⟨rfl,k,os,rfl⟩
 exact⟨rfl,ygo w k os⟩
theorem ygq (n:Int) (w:World) (h0 : -9223372036854775808≤n) (h1:n≤9223372036854775807) (hw:y6r w):Calls Tryz.prog 107 #[.int .i64 n] w fun e w'=>
  e=.returned (.string ⟨(Go.Lib.itoa n).toArray⟩)∧Grow w w':=by
 go_enter Tryz.func107,Tryz.ntmps107
 go_wp2_with (go_at_call 219;refine(yvt _ _ h0 h1 hw).mono ?_;rintro e w' ⟨rfl,hg⟩)
 go_ret
 exact⟨rfl,hg⟩
set_option maxHeartbeats 1000000 in
theorem yqt (s:ByteArray) (w:World) (hs:s.size≤1048576) (hw:y6r w):Calls Tryz.prog 136 #[.string s] w fun e w'=>
  Grow w w'∧e=.returned (.tuple #[.int .i64 (yac s.data.toList).1,.bool (yac s.data.toList).2]):=by
 go_enter Tryz.func136,Tryz.ntmps136
 go_wp2_with (first
  | (go_at_call 235;refine(y5z _ _).mono ?_;rintro e w' ⟨rfl,rfl⟩)
  | (go_at_call 236;refine(ydv _ _ hs hw).mono ?_;rintro e w' ⟨hg,⟨v,hv,rfl⟩|⟨hv,v,t,p,rfl⟩⟩)
  | (go_at_call 107;have hb:=Go.Lib.parseIntB_bounds hv;refine(ygq _ _ (by omega) (by omega) (ye7 hw hg)).mono ?_;rintro e w'' ⟨rfl,hg2⟩))
 ·go_ret2
  rename_i h
  have h:18<(Go.Lib.trimPrefix s.data.toList [45]).length:=by omega
  refine⟨Grow.refl' _,?_⟩
  unfold yac
  rw[if_pos h]
  rfl
 ·go_ret2
  rename_i hne
  rw[ByteArray.toList_eq]at hne
  have hne:Go.Lib.itoa v≠s.data.toList:=by simpa using hne
  refine⟨Grow.trans' hg hg2,?_⟩
  unfold yac
  rw[if_neg (by omega),hv]
  simp only
  rw[if_neg hne]
  rfl
 ·go_ret2
  rename_i hne
  rw[ByteArray.toList_eq]at hne
  have hne:Go.Lib.itoa v=s.data.toList:=by simpa using hne
  refine⟨Grow.trans' hg hg2,?_⟩
  unfold yac
  rw[if_neg (by omega),hv]
  simp only
  rw[if_pos hne]
  rfl
 ·go_ret2
  refine⟨hg,?_⟩
  unfold yac
  rw[if_neg (by omega)]
  cases hp:Go.Lib.parseIntB 64 s.data.toList with
  | ok v=>exact absurd hp (hv v)
  | _=>rfl
theorem yaw (a0:List UInt8) (hp0:a0.length≤1048576):Den Tryz.prog 136 [.str a0] (.tup [.int .i64 (yac a0).1,.bool (yac a0).2]):=by
 refine Den.plain ⟨_,Tryz.func136,rfl,rfl⟩ (by simp[NoOwnL,NoOwn]) ?_
 intro w M vs hI hr
 simp only[RepL]at hr
 obtain⟨u0,us0,f0,g0,rfl,h0e,h0,rfl,_⟩:=hr
 have e0:=h0.val_str
 subst e0
 refine(yqt ⟨a0.toArray⟩ w (by show a0.length≤_;omega) hI).mono ?_
 rintro e w' ⟨hg,rfl⟩
 refine⟨_,rfl,hg,fun M' => ?_⟩
 simp only[Rep]
 exact⟨_,rfl,by simp only[RepL];exact⟨_,[_],[],[],rfl,rfl,ysb _ _,_,[],[],[],rfl,rfl,ypc _,rfl,rfl⟩⟩
end Go.Ab

namespace Go.Ab
open Go Go.Proofs
def zfi (a0:Int) (a1:Int):(List UInt8):=Go.Lib.itoa a0
theorem y3ab (a0:Int) (a1:Int) (hp0:a1=10) (hp1 : -9223372036854775808≤a0) (hp2:a0≤9223372036854775807):Den Tryz.prog 219 [.int .i64 a0,.int .i64 a1] (.str (zfi a0 a1)):=by
 subst hp0
 refine Den.plain ⟨_,Tryz.func219,rfl,rfl⟩ (by simp[NoOwnL,NoOwn]) ?_
 intro w M vs hI hr
 simp only[RepL]at hr
 obtain⟨u0,us0,f0,g0,rfl,h0e,h0,u1,us1,f1,g1,rfl,h1e,h1,rfl,_⟩:=hr
 have e0:=h0.val_int
 have e1:=h1.val_int
 subst e0 e1
 refine(Any.strconv_FormatInt_10 Tryz.laysM173 a0 hp1 hp2 w hI.1.1).mono ?_
 rintro e w' ⟨rfl,k,os,rfl⟩
 exact⟨_,rfl,ygo w k os,fun M'=>y1b _ (ys5 hp1 hp2)⟩
def D_zfi : DF
 | [x0,x1]=>some (.str (zfi (rdI x0) (rdI x1)),false,[wI .i64 x0,wI .i64 x1,(rdI x1)=10,-9223372036854775808≤(rdI x0),(rdI x0)≤9223372036854775807])
 | _=>none
theorem y73:OkD Tryz.prog 219 D_zfi:=by
 intro xs r z ob h ho
 unfold D_zfi at h
 split at h
 ·simp only[Option.some.injEq,Prod.mk.injEq]at h
  obtain⟨rfl,rfl,rfl⟩:=h
  obtain⟨h0,h1,hp0,hp1,hp2,_⟩:=ho
  exact Den.sim (y3ab _ _ hp0 hp1 hp2) (yu (ydf h0).1 <| yu (ydf h1).1 <| trivial) (yw (ydf h0).2 <| yw (ydf h1).2 <| rfl) rfl
 ·cases h
end Go.Ab

namespace Go.Ab
open Go Go.Proofs
def ybm {α ρ σ : Type} (g : α → σ → Except ρ σ) : List α → σ → Except ρ σ
  | [],s=>.ok s
  | x :: t, s => match g x s with
    | .error r=>.error r
    | .ok s'=>ybm g t s'
theorem y7g {α ρ σ : Type} (g : α → σ → Except ρ σ) (x : α) (t : List α) (s : σ) : ybm g (x :: t) s = match g x s with
  | .error r=>.error r
  | .ok s'=>ybm g t s':=rfl
theorem y1o {α ρ σ : Type} [Inhabited α] {b : Nat → σ → Except ρ σ} (g : α → σ → Except ρ σ) (l : List α) : ∀ (k i : Nat) (s : σ), i + k = l.length → (∀ j u, i ≤ j → j < l.length → b j u = g (l.getD j default) u) → ye b k i s = ybm g (l.drop i) s
 | 0,i,s,h,_=>by rw[List.drop_eq_nil_of_le (by omega)];rfl
 | k+1,i,s,h,hb=>by
  have hi:i<l.length:=by omega
  rw[List.drop_eq_getElem_cons hi]
  simp only[ye,ybm]
  rw[hb i s (Nat.le_refl _) hi,List.getD_eq_getElem?_getD,List.getElem?_eq_getElem hi,Option.getD_some]
  cases g l[i] s with
  | error r=>rfl
  | ok s'=>exact y1o g l k (i+1) s' (by omega) (fun j u h1 h2=>hb j u (by omega) h2)
theorem y4d {α ρ σ:Type} [Inhabited α] {b:Nat→σ→Except ρ σ} (g:α→σ→Except ρ σ) (l:List α) (s:σ) (hb:∀ j u,j<l.length→b j u=g (l.getD j default) u):ye b (l.length-0) 0 s=ybm g l s:=by
 rw[y1o g l (l.length-0) 0 s (by omega) (fun j u _ h=>hb j u h),List.drop_zero]
theorem yy6 {α β:Type} [Inhabited α] [Inhabited β] (f:α→β) (l:List α) (i:Nat) (h:i<l.length):(l.map f).getD i default=f (l.getD i default):=by
 simp[List.getD_eq_getElem?_getD,h]
theorem yjr {j:Nat} (h:0<j) (hn:j<9223372036854775808):(IntKind.wrap .i64 ((j:Int)-1)).toNat=j-1:=by
 rw[IntKind.wrap_i64];omega
end Go.Ab

namespace Go.Ab
theorem y8y {f : Nat → Int} {n : Nat} (hs : ∀ i, i + 1 < n → f i < f (i + 1)) : ∀ (d i : Nat), i + d + 1 < n → f i < f (i + d + 1)
 | 0,i,h=>hs i h
 | d+1,i,h=>by
  have h1:=y8y hs d i (by omega)
  have h2:=hs (i+d+1) (by omega)
  have:i+(d+1)+1=i+d+1+1:=by omega
  rw[this];omega
theorem y1e {f:Nat→Int} {n:Nat} (hs:∀ i,i+1<n→f i<f (i+1)) {i k:Nat} (h:i<k) (hk:k<n):f i<f k:=by
 have:=y8y hs (k-i-1) i (by omega)
 rwa [show i+(k-i-1)+1=k by omega]at this
theorem y8z {f arc:Nat→Int} {n:Nat} (hf:∀ i,i<n→0≤f i∧f i≤359) (hs:∀ i,i+1<n→f i<f (i+1)) :
  (∀ i,i<n→∀ k,k<n→k≠i→arc i≤(f k-f i) % 360)↔(1<n→∀ i,i<n→arc i≤(f ((i+1) % n)-f i+360) % 360):=by
 constructor
 ·intro h hn i hi
  have hne:(i+1) % n≠i:=by
   by_cases h2:i+1<n
   ·rw[Nat.mod_eq_of_lt h2];omega
   ·have:i+1=n:=by omega
    rw[this,Nat.mod_self];omega
  have:=h i hi ((i+1) % n) (Nat.mod_lt _ (by omega)) hne
  omega
 ·intro h i hi k hk hki
  have hn:1<n:=by omega
  have h1:=h hn i hi
  have fi:=hf i hi
  have fk:=hf k hk
  by_cases h2:i+1<n
  ·rw[Nat.mod_eq_of_lt h2]at h1
   have g:=hs i h2
   have fn:=hf (i+1) h2
   have e1:(f (i+1)-f i+360) % 360=f (i+1)-f i:=by omega
   rw[e1]at h1
   by_cases h3:i<k
   ·have:f (i+1)≤f k:=by
     by_cases h4:k=i+1
     ·rw[h4];omega
     ·have:=y1e hs (i:=i+1) (k:=k) (by omega) hk;omega
    have:(f k-f i) % 360=f k-f i:=by omega
    omega
   ·have:=y1e hs (i:=k) (k:=i) (by omega) hi
    have:(f k-f i) % 360=f k-f i+360:=by omega
    omega
  ·have hin:i+1=n:=by omega
   rw[hin,Nat.mod_self]at h1
   have f0:=hf 0 (by omega)
   have g:=y1e hs (i:=0) (k:=i) (by omega) hi
   have e1:(f 0-f i+360) % 360=f 0-f i+360:=by omega
   rw[e1]at h1
   have:f 0≤f k:=by
    by_cases h4:k=0
    ·rw[h4];omega
    ·have:=y1e hs (i:=0) (k:=k) (by omega) hk;omega
   have:=y1e hs (i:=k) (k:=i) (by omega) hi
   have:(f k-f i) % 360=f k-f i+360:=by omega
   omega
theorem yd8 {f arc S : Nat → Int} {n : Nat} (hf : ∀ i, i < n → 0 ≤ f i ∧ f i ≤ 359) (hs : ∀ i, i + 1 < n → f i < f (i + 1)) (ha : ∀ i, i < n → 1 ≤ arc i ∧ arc i ≤ 360)
  (h:1<n→∀ i,i<n→arc i≤(f ((i+1) % n)-f i+360) % 360) (h0:S 0=0) (hS:∀ i,i<n→S (i+1)=S i+arc i):S n≤360:=by
 by_cases hn:1<n
 ·have key:∀ j,j<n→S j≤f j-f 0:=by
   intro j
   induction j with
   | zero=>intro _;rw[h0];omega
   | succ j ih=>
    intro hj
    have i1:=ih (by omega)
    have i2:=h hn j (by omega)
    rw[Nat.mod_eq_of_lt hj]at i2
    have g:=hs j hj
    have fj:=hf j (by omega)
    have fj1:=hf (j+1) hj
    have e1:(f (j+1)-f j+360) % 360=f (j+1)-f j:=by omega
    rw[hS j (by omega)];omega
  have k1:=key (n-1) (by omega)
  have i2:=h hn (n-1) (by omega)
  rw[show n-1+1=n by omega,Nat.mod_self]at i2
  have f0:=hf 0 (by omega)
  have fn:=hf (n-1) (by omega)
  have g:=y1e hs (i:=0) (k:=n-1) (by omega) (by omega)
  have e1:(f 0-f (n-1)+360) % 360=f 0-f (n-1)+360:=by omega
  have:=hS (n-1) (by omega)
  rw[show n-1+1=n by omega]at this
  omega
 ·by_cases h1:n=1
  ·subst h1
   have:=hS 0 (by omega)
   have a0:=ha 0 (by omega)
   simp only[Nat.zero_add]at this
   omega
  ·have:n=0:=by omega
   subst this
   omega
end Go.Ab

namespace Go.Ab
open Go Go.Proofs
theorem ygd (a b:List UInt8):(Go.Lib.trimSuffix a b).length≤a.length:=by
 unfold Go.Lib.trimSuffix
 split
 ·simp
 ·omega
theorem ylv (a b:List UInt8):(Go.Lib.cut a b).1.length≤a.length∧(Go.Lib.cut a b).2.1.length≤a.length:=by
 unfold Go.Lib.cut
 split
 ·simp only[List.length_take,List.length_drop];omega
 ·simp
theorem yi1 (w:World) (k:Nat):Grow w (w.drewN k):=⟨rfl,rfl,rfl,Nat.le_refl _,fun _ _=>rfl⟩
theorem y6ab {w:World} {M:Nat→Prop} {μ:Map} {x y:AV} {u v:Value} (h1:Rep w M x μ u []) (h2:Rep w M y μ v []):Rep w M (.tup [x,y]) μ (.tuple #[u,v]) []:=by
 simp only[Rep,RepL]
 exact⟨[u,v],rfl,u,[v],[],[],rfl,rfl,h1,v,[],[],[],rfl,rfl,h2,rfl,rfl⟩
theorem ye3 {w:World} {M:Nat→Prop} {μ:Map} {x y z:AV} {u v t:Value} (h1:Rep w M x μ u []) (h2:Rep w M y μ v []) (h3:Rep w M z μ t []):Rep w M (.tup [x,y,z]) μ (.tuple #[u,v,t]) []:=by
 simp only[Rep,RepL]
 exact⟨[u,v,t],rfl,u,[v,t],[],[],rfl,rfl,h1,v,[t],[],[],rfl,rfl,h2,t,[],[],[],rfl,rfl,h3,rfl,rfl⟩
end Go.Ab

namespace Go.Ab
open Go Go.Proofs
def zpc (a0:(List UInt8)) (a1:(List UInt8)):Bool:=decide (0≤Go.Lib.indexByte a0 (a1.getD 0 0))
theorem ydbb (a0:(List UInt8)) (a1:(List UInt8)) (hp0:a1.length=1):Den Tryz.prog 286 [.str a0,.str a1] (.bool (zpc a0 a1)):=by
 obtain⟨c,rfl⟩:∃ c,a1=[c]:=List.length_eq_one_iff.1 hp0
 refine Den.plain ⟨_,Tryz.func286,rfl,rfl⟩ (by simp[NoOwnL,NoOwn]) ?_
 intro w M vs hI hr
 simp only[RepL]at hr
 obtain⟨u0,us0,f0,g0,rfl,h0e,h0,u1,us1,f1,g1,rfl,h1e,h1,rfl,_⟩:=hr
 have e0:=h0.val_str
 have e1:=h1.val_str
 subst e0 e1
 refine(Any.strings_Contains_one Tryz.lays144 ⟨a0.toArray⟩ c w).mono ?_
 rintro e w' ⟨rfl,rfl⟩
 exact⟨_,rfl,Grow.refl _,fun M'=>ypc _⟩
def D_zpc : DF
 | [x0,x1]=>some (.bool (zpc (rdS x0) (rdS x1)),false,[wS x0,wS x1,(rdS x1).length=1])
 | _=>none
theorem yuy:OkD Tryz.prog 286 D_zpc:=by
 intro xs r z ob h ho
 unfold D_zpc at h
 split at h
 ·simp only[Option.some.injEq,Prod.mk.injEq]at h
  obtain⟨rfl,rfl,rfl⟩:=h
  obtain⟨h0,h1,hp0,_⟩:=ho
  exact Den.sim (ydbb _ _ hp0) (yu (ycb h0).1 <| yu (ycb h1).1 <| trivial) (yw (ycb h0).2 <| yw (ycb h1).2 <| rfl) rfl
 ·cases h
end Go.Ab

namespace Go.Ab
open Go Go.Proofs
theorem y0bb {s n:Int} (h0:0≤s) (h1:s<n) (hn:n<9223372036854775808):0≤(IntKind.wrap .i64 (s+1)).tmod n∧(IntKind.wrap .i64 (s+1)).tmod n<n:=by
 have e:IntKind.wrap .i64 (s+1)=s+1:=by rw[IntKind.wrap_i64];omega
 rw[e,Int.tmod_eq_emod_of_nonneg (by omega)]
 exact⟨Int.emod_nonneg _ (by omega),Int.emod_lt_of_pos _ (by omega)⟩
end Go.Ab
