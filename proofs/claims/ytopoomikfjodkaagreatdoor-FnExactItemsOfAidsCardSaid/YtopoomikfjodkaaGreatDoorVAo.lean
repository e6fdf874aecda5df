/- A part of a proof: walks of functions and lemmas of our own. No conditions. -/
import Derived.Test.YtopoomikfjodkaaGreatDoorVAl
import Derived.Lib.ParseIntBTie
import Derived.Lib.ItoaNum
import Derived.Lib.Strings
import Derived.Shelf.Strings.Builder1
import Derived.Shelf.Strings.Builder2
import Derived.Shelf.Strings.OnBuilder
import Derived.Shelf.Small.Strs
import Derived.Shelf.Small.Wraps
import Derived.Shelf.Strings.BuilderF
import Derived.Shelf.Utf8.RuneCount
import Derived.Shelf.Strconv.Itoa0
import Derived.Shelf.Strconv.Itoa1
import Derived.Shelf.LaysM
import Derived.Shelf.Strconv.Itoa2
import Derived.Shelf.Strconv.Itoa3
import Derived.Shelf.Strconv.Itoa4
import Derived.Shelf.Strconv.ParseIntEmpty
import Derived.Shelf.Strconv.Clone
import Derived.Shelf.Strconv.SyntaxError
import Derived.Shelf.LaysC
import Derived.Shelf.Strconv.ToError
import Derived.Shelf.Strconv.Lower
import Derived.Shelf.Strconv.ParseUint10
import Derived.Shelf.Strconv.ParseUint10Empty
import Derived.Shelf.Strconv.ParseUint10Any
import Derived.Shelf.Strconv.ParseInt10
import Derived.Shelf.Strconv.RangeError
import Derived.Shelf.Strconv.ToErrorRange
import Derived.Shelf.Strconv.ParseUintEmpty
import Derived.Shelf.Strconv.ParseUint10b64
import Derived.Shelf.Strconv.ParseUint10b32
import Derived.Shelf.Strconv.ParseUint10b16
import Derived.Shelf.Strconv.ParseUint10b8
import Derived.Shelf.Strconv.ParseUint10At
import Derived.Shelf.Strconv.ParseInt10At64
import Derived.Shelf.Strconv.ParseInt10At32
import Derived.Shelf.Strconv.ParseInt10At16
import Derived.Shelf.Strconv.ParseInt10At8
import Derived.Shelf.Strconv.ParseInt10All
import Derived.Shelf.Strconv.ParseIntPublic10
import Derived.Shelf.Strconv.ErrVarParseInt
import Derived.Shelf.Strings.Search1
import Derived.Shelf.Strings.Search2
import Derived.Shelf.Strings.Search3
import Derived.Shelf.Strings.Cut
import Derived.Shelf.Strings.Count
import Derived.Shelf.Strings.Shaped
import Derived.Shelf.Strings.Prefix
import Derived.Shelf.Strings.Split
import Derived.Shelf.Strings.Fields
import Derived.Shelf.Strings.SplitShaped
import Derived.Shelf.Unicode.Latin
import Derived.Shelf.Unicode.Decode
import Derived.Shelf.Strings.RuneCount
import Derived.Shelf.Strings.Explode
import Derived.Shelf.Bits.Mul64
import Derived.Shelf.Strings.Repeat
import Derived.Shelf.Unicode.DecodeSlow
import Derived.Shelf.Unicode.DecodeAny
import Derived.Shelf.Unicode.Is16White
import Derived.Shelf.Unicode.IsSpaceAny
import Derived.Shelf.Unicode.Is16Any
import Derived.Shelf.Unicode.Is32Any
import Derived.Shelf.Unicode.ExclAny
import Derived.Test.YtopoomikfjodkaaGreatDoorProg
import Derived.Test.YtopoomikfjodkaaGreatDoorVAm
import Derived.Below
import Derived.Handy
import Derived.WideShapes
import Derived.ProofKit
import Derived.Test.YtopoomikfjodkaaGreatDoorVAi
set_option linter.unusedSectionVars false
set_option linter.unusedVariables false
set_option linter.unusedSimpArgs false
set_option maxHeartbeats 1000000
namespace Go.Ab
open Go
def ymj (l:List UInt8):Prop:=∀ b∈l,48≤b.toNat∧b.toNat≤57
instance (l:List UInt8):Decidable (ymj l):=by unfold ymj;infer_instance
def digV (n:Nat) (l:List UInt8):Nat:=l.foldl (fun k b=>10 * k+(b.toNat-48)) n
theorem ytg (n:Nat):digV n []=n:=List.foldl_nil
theorem y3b (n:Nat) (c:UInt8) (l:List UInt8):digV n (c::l)=digV (10 * n+(c.toNat-48)) l:=List.foldl_cons ..
theorem yvw (b:UInt8) (l:List UInt8) (n:Nat):digV n (l++[b])=10 * digV n l+(b.toNat-48):=by
 unfold digV
 rw[List.foldl_append,List.foldl_cons,List.foldl_nil]
theorem yt3 (l:List UInt8):∀ (n:Nat),ymj l→digV n l<(n+1) * 10 ^ l.length:=by
 induction l with
 | nil=>intro n _;rw[ytg,List.length_nil,Nat.pow_zero];omega
 | cons c l ih=>
  intro n h
  have hc:=h c (by simp)
  have h1:=ih (10 * n+(c.toNat-48)) (fun b hb=>h b (by simp[hb]))
  rw[y3b,List.length_cons,Nat.pow_succ]
  have h2:(10 * n+(c.toNat-48)+1) * 10 ^ l.length≤((n+1) * 10) * 10 ^ l.length:=Nat.mul_le_mul_right _ (by omega)
  have h3:((n+1) * 10) * 10 ^ l.length=(n+1) * (10 ^ l.length * 10):=by rw[Nat.mul_assoc,Nat.mul_comm 10]
  omega
theorem y73 (l:List UInt8):∀ (n:Nat),n * 10 ^ l.length≤digV n l:=by
 induction l with
 | nil=>intro n;rw[ytg,List.length_nil,Nat.pow_zero];omega
 | cons c l ih=>
  intro n
  have h1:=ih (10 * n+(c.toNat-48))
  rw[y3b,List.length_cons,Nat.pow_succ]
  have h2:(n * 10) * 10 ^ l.length≤(10 * n+(c.toNat-48)) * 10 ^ l.length:=Nat.mul_le_mul_right _ (by omega)
  have h3:(n * 10) * 10 ^ l.length=n * (10 ^ l.length * 10):=by rw[Nat.mul_assoc,Nat.mul_comm 10]
  omega
theorem ylb (m:Nat) (h:¬ m<10):Lib.decDigits m=Lib.decDigits (m / 10)++[UInt8.ofNat (48+m % 10)]:=by
 rw[Lib.decDigits,dif_neg h]
theorem ylk (d:Nat) (h:d<10):(UInt8.ofNat (48+d)).toNat=48+d:=by
 rw[UInt8.toNat_ofNat'];omega
theorem yxc (m:Nat):ymj (Lib.decDigits m)∧digV 0 (Lib.decDigits m)=m∧Lib.decDigits m≠[]∧(1≤m→(Lib.decDigits m).getD 0 0≠48):=by
 induction m using Nat.strongRecOn with
 | ind m ih=>
  by_cases h:m<10
  ·rw[Lib.decDigits_one h]
   refine⟨fun b hb => ?_,?_,by simp,fun h1 => ?_⟩
   ·simp only[List.mem_singleton]at hb
    subst hb
    rw[ylk m h];omega
   ·rw[y3b,ytg,ylk m h];omega
   ·intro e
    have e2:(UInt8.ofNat (48+m)).toNat=48:=by
     have:(UInt8.ofNat (48+m))=48:=by simpa using e
     rw[this];rfl
    rw[ylk m h]at e2
    omega
  ·obtain⟨i1,i2,i3,i4⟩:=ih (m / 10) (by omega)
   rw[ylb m h]
   refine⟨fun b hb => ?_,?_,by simp,fun _ => ?_⟩
   ·rcases List.mem_append.1 hb with hb|hb
    ·exact i1 b hb
    ·simp only[List.mem_singleton]at hb
     subst hb
     rw[ylk _ (by omega)];omega
   ·rw[yvw,i2,ylk _ (by omega)];omega
   ·obtain⟨c,t,e⟩:=List.exists_cons_of_ne_nil i3
    have:=i4 (by omega)
    rw[e]at this ⊢
    simpa using this
theorem yre (m:Nat):(Lib.decDigits m).length≤18↔m<1000000000000000000:=by
 obtain⟨h1,h2,h3,h4⟩:=yxc m
 constructor
 ·intro h
  have:=yt3 (Lib.decDigits m) 0 h1
  rw[h2]at this
  have h5:10 ^ (Lib.decDigits m).length≤10 ^ 18:=Nat.pow_le_pow_right (by decide) h
  have h6:(10:Nat) ^ 18=1000000000000000000:=by decide
  omega
 ·intro h
  by_cases hl:(Lib.decDigits m).length≤18
  ·exact hl
  ·exfalso
   obtain⟨c,t,e⟩:=List.exists_cons_of_ne_nil h3
   have hm:1≤m:=by
    by_cases h0:m=0
    ·subst h0;rw[Lib.decDigits_one (by decide)]at hl;simp at hl
    ·omega
   have h48:=h4 hm
   rw[e]at h48 h1 h2 hl
   have hc:=h1 c (by simp)
   have hc1:49≤c.toNat:=by
    have:c.toNat≠48:=fun e2=>h48 (by
     have:c=48:=UInt8.toNat_inj.1 (by rw[e2];rfl)
     simp[this])
    omega
   have h5:=y73 t (10 * 0+(c.toNat-48))
   have h6:digV 0 (c::t)=digV (10 * 0+(c.toNat-48)) t:=y3b ..
   have h7:10 ^ 18≤10 ^ t.length:=Nat.pow_le_pow_right (by decide) (by simp at hl;omega)
   have h8:(10:Nat) ^ 18=1000000000000000000:=by decide
   have h9:1 * 10 ^ t.length≤(10 * 0+(c.toNat-48)) * 10 ^ t.length:=Nat.mul_le_mul_right _ (by omega)
   omega
end Go.Ab

namespace Go.Proofs
open Go.Shelf
def Tryz.lays156_ren:Go.Shelf.Ren:=⟨fun|156=>83|165=>178|166=>179|169=>180|240=>257|241=>258|276=>319|277=>320|n=>n,fun|31=>122|9=>9|3=>3|4=>4|0=>0|20=>20|72=>209|76=>213|70=>207|37=>22|75=>212|127=>255|164=>282|5=>5|80=>215|n=>n,fun|n=>n⟩
theorem Tryz.lays156 : Go.Proofs.Lays.n156 Tryz.prog Tryz.lays156_ren := {
 mixed:=by kernel_rfl
 f156:=Tryz.func83.trans (congrArg some (by kernel_rfl))
 f165:=Tryz.func178.trans (congrArg some (by kernel_rfl))
 f166:=Tryz.func179.trans (congrArg some (by kernel_rfl))
 f169:=Tryz.func180.trans (congrArg some (by kernel_rfl))
 f240:=Tryz.func257.trans (congrArg some (by kernel_rfl))
 f241:=Tryz.func258.trans (congrArg some (by kernel_rfl))
 f276:=Tryz.func319.trans (congrArg some (by kernel_rfl))
 f277:=Tryz.func320.trans (congrArg some (by kernel_rfl))
 t0:=Tryz.underlying0
 a0:=Tryz.isAgg0
 z0:=Tryz.sizeOf0
 v0:=Tryz.zeroValue0
 t3:=Tryz.underlying3
 a3:=Tryz.isAgg3
 z3:=Tryz.sizeOf3
 v3:=Tryz.zeroValue3
 t4:=Tryz.underlying4
 a4:=Tryz.isAgg4
 z4:=Tryz.sizeOf4
 v4:=Tryz.zeroValue4
 t9:=Tryz.underlying9
 a9:=Tryz.isAgg9
 z9:=Tryz.sizeOf9
 v9:=Tryz.zeroValue9
 t20:=Tryz.underlying20
 a20:=Tryz.isAgg20
 z20:=Tryz.sizeOf20
 v20:=Tryz.zeroValue20
 t31:=Tryz.underlying122
 a31:=Tryz.isAgg122
 z31:=Tryz.sizeOf122
 v31:=Tryz.zeroValue122
 t37:=Tryz.underlying22
 a37:=Tryz.isAgg22
 z37:=Tryz.sizeOf22
 v37:=Tryz.zeroValue22
 t70:=Tryz.underlying207
 a70:=Tryz.isAgg207
 z70:=Tryz.sizeOf207
 v70:=Tryz.zeroValue207
 t72:=Tryz.underlying209
 a72:=Tryz.isAgg209
 z72:=Tryz.sizeOf209
 v72:=Tryz.zeroValue209
 t75:=Tryz.underlying212
 a75:=Tryz.isAgg212
 z75:=Tryz.sizeOf212
 v75:=Tryz.zeroValue212
 t76:=Tryz.underlying213
 a76:=Tryz.isAgg213
 z76:=Tryz.sizeOf213
 v76:=Tryz.zeroValue213
 t127:=Tryz.underlying255
 a127:=Tryz.isAgg255
 z127:=Tryz.sizeOf255
 v127:=Tryz.zeroValue255
 t164:=Tryz.underlying282
 a164:=Tryz.isAgg282
 z164:=Tryz.sizeOf282
 v164:=Tryz.zeroValue282 }
theorem Tryz.Builder_Extra_156 : Builder.Extra Tryz.prog Tryz.lays156_ren := {
 sizeBuilder:=by kernel_rfl
 liesBuilder:=by kernel_rfl
 t5:=Tryz.underlying5
 a5:=Tryz.isAgg5
 z5:=Tryz.sizeOf5
 v5:=Tryz.zeroValue5
 infoByte:=by kernel_rfl
 cellsByte:=by kernel_rfl
 sizeByte:=by kernel_rfl
 neB5:=by decide }
def Tryz.lays137_ren:Go.Shelf.Ren:=⟨fun|137=>265|217=>325|266=>365|n=>n,fun|9=>9|5=>5|3=>3|n=>n,fun|n=>n⟩
theorem Tryz.lays137 : Go.Proofs.Lays.n137 Tryz.prog Tryz.lays137_ren := {
 mixed:=by kernel_rfl
 f137:=Tryz.func265.trans (congrArg some (by kernel_rfl))
 f217:=Tryz.func325.trans (congrArg some (by kernel_rfl))
 f266:=Tryz.func365.trans (congrArg some (by kernel_rfl))
 t3:=Tryz.underlying3
 a3:=Tryz.isAgg3
 z3:=Tryz.sizeOf3
 v3:=Tryz.zeroValue3
 t5:=Tryz.underlying5
 a5:=Tryz.isAgg5
 z5:=Tryz.sizeOf5
 v5:=Tryz.zeroValue5
 t9:=Tryz.underlying9
 a9:=Tryz.isAgg9
 z9:=Tryz.sizeOf9
 v9:=Tryz.zeroValue9 }
def Tryz.laysM173_ren:Go.Shelf.Ren:=⟨fun|173=>219|246=>287|283=>336|284=>337|285=>338|286=>339|129=>371|317=>370|318=>372|319=>373|320=>374|337=>383|338=>384|n=>n,fun|2=>2|3=>3|9=>9|4=>4|171=>293|0=>0|53=>203|37=>22|5=>5|173=>296|212=>329|51=>288|20=>20|213=>330|46=>252|232=>348|233=>349|n=>n,fun|17=>3|18=>8|19=>9|n=>n⟩
theorem Tryz.laysM173 : Go.Proofs.LaysM.n173 Tryz.prog Tryz.laysM173_ren := {
 mixed:=by kernel_rfl
 f129:=Tryz.func371.trans (congrArg some (by kernel_rfl))
 f173:=Tryz.func219.trans (congrArg some (by kernel_rfl))
 f246:=Tryz.func287.trans (congrArg some (by kernel_rfl))
 f283:=Tryz.func336.trans (congrArg some (by kernel_rfl))
 f284:=Tryz.func337.trans (congrArg some (by kernel_rfl))
 f285:=Tryz.func338.trans (congrArg some (by kernel_rfl))
 f286:=Tryz.func339.trans (congrArg some (by kernel_rfl))
 f317:=Tryz.func370.trans (congrArg some (by kernel_rfl))
 f318:=Tryz.func372.trans (congrArg some (by kernel_rfl))
 f319:=Tryz.func373.trans (congrArg some (by kernel_rfl))
 f320:=Tryz.func374.trans (congrArg some (by kernel_rfl))
 f337:=Tryz.func383.trans (congrArg some (by kernel_rfl))
 f338:=Tryz.func384.trans (congrArg some (by kernel_rfl))
 t0:=Tryz.underlying0
 a0:=Tryz.isAgg0
 z0:=Tryz.sizeOf0
 v0:=Tryz.zeroValue0
 t2:=Tryz.underlying2
 a2:=Tryz.isAgg2
 z2:=Tryz.sizeOf2
 v2:=Tryz.zeroValue2
 t3:=Tryz.underlying3
 a3:=Tryz.isAgg3
 z3:=Tryz.sizeOf3
 v3:=Tryz.zeroValue3
 t4:=Tryz.underlying4
 a4:=Tryz.isAgg4
 z4:=Tryz.sizeOf4
 v4:=Tryz.zeroValue4
 t5:=Tryz.underlying5
 a5:=Tryz.isAgg5
 z5:=Tryz.sizeOf5
 v5:=Tryz.zeroValue5
 t9:=Tryz.underlying9
 a9:=Tryz.isAgg9
 z9:=Tryz.sizeOf9
 v9:=Tryz.zeroValue9
 t20:=Tryz.underlying20
 a20:=Tryz.isAgg20
 z20:=Tryz.sizeOf20
 v20:=Tryz.zeroValue20
 t37:=Tryz.underlying22
 a37:=Tryz.isAgg22
 z37:=Tryz.sizeOf22
 v37:=Tryz.zeroValue22
 t46:=Tryz.underlying252
 a46:=Tryz.isAgg252
 z46:=Tryz.sizeOf252
 v46:=Tryz.zeroValue252
 t51:=Tryz.underlying288
 a51:=Tryz.isAgg288
 z51:=Tryz.sizeOf288
 v51:=Tryz.zeroValue288
 t53:=Tryz.underlying203
 a53:=Tryz.isAgg203
 z53:=Tryz.sizeOf203
 v53:=Tryz.zeroValue203
 t171:=Tryz.underlying293
 a171:=Tryz.isAgg293
 z171:=Tryz.sizeOf293
 v171:=Tryz.zeroValue293
 t173:=Tryz.underlying296
 a173:=Tryz.isAgg296
 z173:=Tryz.sizeOf296
 v173:=Tryz.zeroValue296
 t212:=Tryz.underlying329
 a212:=Tryz.isAgg329
 z212:=Tryz.sizeOf329
 v212:=Tryz.zeroValue329
 t213:=Tryz.underlying330
 a213:=Tryz.isAgg330
 z213:=Tryz.sizeOf330
 t232:=Tryz.underlying348
 a232:=Tryz.isAgg348
 z232:=Tryz.sizeOf348
 v232:=Tryz.zeroValue348
 t233:=Tryz.underlying349
 a233:=Tryz.isAgg349
 z233:=Tryz.sizeOf349
 v233:=Tryz.zeroValue349
 g17:=by kernel_rfl
 g18:=by kernel_rfl
 g19:=by kernel_rfl
 i0:=by kernel_rfl
 i2:=by kernel_rfl
 i3:=by kernel_rfl
 i4:=by kernel_rfl
 i5:=by kernel_rfl
 i9:=by kernel_rfl
 i20:=by kernel_rfl
 i37:=by kernel_rfl
 i46:=by kernel_rfl
 i51:=by kernel_rfl
 i53:=by kernel_rfl
 i171:=by kernel_rfl
 i173:=by kernel_rfl
 i212:=by kernel_rfl
 i232:=by kernel_rfl
 i233:=by kernel_rfl
 m17:=by kernel_rfl
 m18:=by kernel_rfl
 m19:=by kernel_rfl }
def Tryz.lays144_ren:Go.Shelf.Ren:=⟨fun|144=>286|143=>302|219=>322|217=>325|225=>362|224=>363|267=>364|266=>365|314=>382|n=>n,fun|9=>9|4=>4|3=>3|5=>5|46=>252|146=>298|51=>288|n=>n,fun|1=>2|n=>n⟩
theorem Tryz.lays144 : Go.Proofs.Lays.n144 Tryz.prog Tryz.lays144_ren := {
 mixed:=by kernel_rfl
 f143:=Tryz.func302.trans (congrArg some (by kernel_rfl))
 f144:=Tryz.func286.trans (congrArg some (by kernel_rfl))
 f217:=Tryz.func325.trans (congrArg some (by kernel_rfl))
 f219:=Tryz.func322.trans (congrArg some (by kernel_rfl))
 f224:=Tryz.func363.trans (congrArg some (by kernel_rfl))
 f225:=Tryz.func362.trans (congrArg some (by kernel_rfl))
 f266:=Tryz.func365.trans (congrArg some (by kernel_rfl))
 f267:=Tryz.func364.trans (congrArg some (by kernel_rfl))
 f314:=Tryz.func382.trans (congrArg some (by kernel_rfl))
 t3:=Tryz.underlying3
 a3:=Tryz.isAgg3
 z3:=Tryz.sizeOf3
 v3:=Tryz.zeroValue3
 t4:=Tryz.underlying4
 a4:=Tryz.isAgg4
 z4:=Tryz.sizeOf4
 v4:=Tryz.zeroValue4
 t5:=Tryz.underlying5
 a5:=Tryz.isAgg5
 z5:=Tryz.sizeOf5
 v5:=Tryz.zeroValue5
 t9:=Tryz.underlying9
 a9:=Tryz.isAgg9
 z9:=Tryz.sizeOf9
 v9:=Tryz.zeroValue9
 t46:=Tryz.underlying252
 a46:=Tryz.isAgg252
 z46:=Tryz.sizeOf252
 v46:=Tryz.zeroValue252
 t51:=Tryz.underlying288
 a51:=Tryz.isAgg288
 z51:=Tryz.sizeOf288
 v51:=Tryz.zeroValue288
 t146:=Tryz.underlying298
 a146:=Tryz.isAgg298
 z146:=Tryz.sizeOf298
 v146:=Tryz.zeroValue298
 g1:=by kernel_rfl }
def Tryz.lays157_ren:Go.Shelf.Ren:=⟨fun|157=>183|229=>259|199=>260|261=>321|311=>360|312=>361|n=>n,fun|9=>9|31=>122|3=>3|5=>5|4=>4|119=>256|0=>0|40=>258|152=>285|21=>21|154=>287|51=>288|141=>290|196=>317|193=>314|198=>320|49=>318|194=>315|201=>323|226=>338|46=>252|227=>339|n=>n,fun|0=>0|6=>1|n=>n⟩
theorem Tryz.lays157 : Go.Proofs.Lays.n157 Tryz.prog Tryz.lays157_ren := {
 mixed:=by kernel_rfl
 f157:=Tryz.func183.trans (congrArg some (by kernel_rfl))
 f199:=Tryz.func260.trans (congrArg some (by kernel_rfl))
 f229:=Tryz.func259.trans (congrArg some (by kernel_rfl))
 f261:=Tryz.func321.trans (congrArg some (by kernel_rfl))
 f311:=Tryz.func360.trans (congrArg some (by kernel_rfl))
 f312:=Tryz.func361.trans (congrArg some (by kernel_rfl))
 t0:=Tryz.underlying0
 a0:=Tryz.isAgg0
 z0:=Tryz.sizeOf0
 v0:=Tryz.zeroValue0
 t3:=Tryz.underlying3
 a3:=Tryz.isAgg3
 z3:=Tryz.sizeOf3
 v3:=Tryz.zeroValue3
 t4:=Tryz.underlying4
 a4:=Tryz.isAgg4
 z4:=Tryz.sizeOf4
 v4:=Tryz.zeroValue4
 t5:=Tryz.underlying5
 a5:=Tryz.isAgg5
 z5:=Tryz.sizeOf5
 v5:=Tryz.zeroValue5
 t9:=Tryz.underlying9
 a9:=Tryz.isAgg9
 z9:=Tryz.sizeOf9
 v9:=Tryz.zeroValue9
 t21:=Tryz.underlying21
 a21:=Tryz.isAgg21
 z21:=Tryz.sizeOf21
 v21:=Tryz.zeroValue21
 t31:=Tryz.underlying122
 a31:=Tryz.isAgg122
 z31:=Tryz.sizeOf122
 v31:=Tryz.zeroValue122
 t40:=Tryz.underlying258
 a40:=Tryz.isAgg258
 z40:=Tryz.sizeOf258
 v40:=Tryz.zeroValue258
 t46:=Tryz.underlying252
 a46:=Tryz.isAgg252
 z46:=Tryz.sizeOf252
 v46:=Tryz.zeroValue252
 t49:=Tryz.underlying318
 a49:=Tryz.isAgg318
 z49:=Tryz.sizeOf318
 v49:=Tryz.zeroValue318
 t51:=Tryz.underlying288
 a51:=Tryz.isAgg288
 z51:=Tryz.sizeOf288
 v51:=Tryz.zeroValue288
 t119:=Tryz.underlying256
 a119:=Tryz.isAgg256
 z119:=Tryz.sizeOf256
 t141:=Tryz.underlying290
 a141:=Tryz.isAgg290
 z141:=Tryz.sizeOf290
 v141:=Tryz.zeroValue290
 t152:=Tryz.underlying285
 a152:=Tryz.isAgg285
 z152:=Tryz.sizeOf285
 v152:=Tryz.zeroValue285
 t154:=Tryz.underlying287
 a154:=Tryz.isAgg287
 z154:=Tryz.sizeOf287
 v154:=Tryz.zeroValue287
 t193:=Tryz.underlying314
 a193:=Tryz.isAgg314
 z193:=Tryz.sizeOf314
 v193:=Tryz.zeroValue314
 t194:=Tryz.underlying315
 a194:=Tryz.isAgg315
 z194:=Tryz.sizeOf315
 v194:=Tryz.zeroValue315
 t196:=Tryz.underlying317
 a196:=Tryz.isAgg317
 z196:=Tryz.sizeOf317
 v196:=Tryz.zeroValue317
 t198:=Tryz.underlying320
 a198:=Tryz.isAgg320
 z198:=Tryz.sizeOf320
 v198:=Tryz.zeroValue320
 t201:=Tryz.underlying323
 a201:=Tryz.isAgg323
 z201:=Tryz.sizeOf323
 v201:=Tryz.zeroValue323
 t226:=Tryz.underlying338
 a226:=Tryz.isAgg338
 z226:=Tryz.sizeOf338
 v226:=Tryz.zeroValue338
 t227:=Tryz.underlying339
 a227:=Tryz.isAgg339
 z227:=Tryz.sizeOf339
 v227:=Tryz.zeroValue339
 g0:=by kernel_rfl
 g6:=by kernel_rfl }
def Tryz.lays105_ren:Go.Shelf.Ren:=⟨fun|105=>222|212=>288|99=>289|165=>178|166=>179|170=>290|169=>180|263=>340|264=>341|206=>342|240=>257|241=>258|276=>319|277=>320|n=>n,fun|9=>9|3=>3|4=>4|20=>20|0=>0|46=>252|109=>271|5=>5|72=>209|76=>213|51=>288|146=>298|53=>203|148=>300|70=>207|37=>22|75=>212|127=>255|164=>282|80=>215|n=>n,fun|n=>n⟩
theorem Tryz.lays105 : Go.Proofs.Lays.n105 Tryz.prog Tryz.lays105_ren := {
 mixed:=by kernel_rfl
 f99:=Tryz.func289.trans (congrArg some (by kernel_rfl))
 f105:=Tryz.func222.trans (congrArg some (by kernel_rfl))
 f165:=Tryz.func178.trans (congrArg some (by kernel_rfl))
 f166:=Tryz.func179.trans (congrArg some (by kernel_rfl))
 f169:=Tryz.func180.trans (congrArg some (by kernel_rfl))
 f170:=Tryz.func290.trans (congrArg some (by kernel_rfl))
 f206:=Tryz.func342.trans (congrArg some (by kernel_rfl))
 f212:=Tryz.func288.trans (congrArg some (by kernel_rfl))
 f240:=Tryz.func257.trans (congrArg some (by kernel_rfl))
 f241:=Tryz.func258.trans (congrArg some (by kernel_rfl))
 f263:=Tryz.func340.trans (congrArg some (by kernel_rfl))
 f264:=Tryz.func341.trans (congrArg some (by kernel_rfl))
 f276:=Tryz.func319.trans (congrArg some (by kernel_rfl))
 f277:=Tryz.func320.trans (congrArg some (by kernel_rfl))
 t0:=Tryz.underlying0
 a0:=Tryz.isAgg0
 z0:=Tryz.sizeOf0
 v0:=Tryz.zeroValue0
 t3:=Tryz.underlying3
 a3:=Tryz.isAgg3
 z3:=Tryz.sizeOf3
 v3:=Tryz.zeroValue3
 t4:=Tryz.underlying4
 a4:=Tryz.isAgg4
 z4:=Tryz.sizeOf4
 v4:=Tryz.zeroValue4
 t5:=Tryz.underlying5
 a5:=Tryz.isAgg5
 z5:=Tryz.sizeOf5
 v5:=Tryz.zeroValue5
 t9:=Tryz.underlying9
 a9:=Tryz.isAgg9
 z9:=Tryz.sizeOf9
 v9:=Tryz.zeroValue9
 t20:=Tryz.underlying20
 a20:=Tryz.isAgg20
 z20:=Tryz.sizeOf20
 v20:=Tryz.zeroValue20
 t37:=Tryz.underlying22
 a37:=Tryz.isAgg22
 z37:=Tryz.sizeOf22
 v37:=Tryz.zeroValue22
 t46:=Tryz.underlying252
 a46:=Tryz.isAgg252
 z46:=Tryz.sizeOf252
 v46:=Tryz.zeroValue252
 t51:=Tryz.underlying288
 a51:=Tryz.isAgg288
 z51:=Tryz.sizeOf288
 v51:=Tryz.zeroValue288
 t53:=Tryz.underlying203
 a53:=Tryz.isAgg203
 z53:=Tryz.sizeOf203
 v53:=Tryz.zeroValue203
 t70:=Tryz.underlying207
 a70:=Tryz.isAgg207
 z70:=Tryz.sizeOf207
 v70:=Tryz.zeroValue207
 t72:=Tryz.underlying209
 a72:=Tryz.isAgg209
 z72:=Tryz.sizeOf209
 v72:=Tryz.zeroValue209
 t75:=Tryz.underlying212
 a75:=Tryz.isAgg212
 z75:=Tryz.sizeOf212
 v75:=Tryz.zeroValue212
 t76:=Tryz.underlying213
 a76:=Tryz.isAgg213
 z76:=Tryz.sizeOf213
 v76:=Tryz.zeroValue213
 t109:=Tryz.underlying271
 a109:=Tryz.isAgg271
 z109:=Tryz.sizeOf271
 v109:=Tryz.zeroValue271
 t127:=Tryz.underlying255
 a127:=Tryz.isAgg255
 z127:=Tryz.sizeOf255
 v127:=Tryz.zeroValue255
 t146:=Tryz.underlying298
 a146:=Tryz.isAgg298
 z146:=Tryz.sizeOf298
 v146:=Tryz.zeroValue298
 t148:=Tryz.underlying300
 a148:=Tryz.isAgg300
 z148:=Tryz.sizeOf300
 v148:=Tryz.zeroValue300
 t164:=Tryz.underlying282
 a164:=Tryz.isAgg282
 z164:=Tryz.sizeOf282
 v164:=Tryz.zeroValue282 }
theorem Tryz.Builder_Extra_105 : Builder.Extra Tryz.prog Tryz.lays105_ren := {
 sizeBuilder:=by kernel_rfl
 liesBuilder:=by kernel_rfl
 t5:=Tryz.underlying5
 a5:=Tryz.isAgg5
 z5:=Tryz.sizeOf5
 v5:=Tryz.zeroValue5
 infoByte:=by kernel_rfl
 cellsByte:=by kernel_rfl
 sizeByte:=by kernel_rfl
 neB5:=by decide }
end Go.Proofs

namespace Go.Ab
open Go Go.Proofs
theorem y7t (w:World) (k:Nat) (os:Array Obj):Grow w (Go.Sort.grow (w.drewN k) os):=by
 refine⟨rfl,rfl,rfl,?_,fun i hi => ?_⟩
 ·show w.heap.size≤(w.heap++os).size
  simp
 ·show(w.heap++os)[i]? = w.heap[i]?
  rw[Array.getElem?_append_left hi]
open Go.RowKit in
theorem yjk {w w':World} (h:Below w.heap.size w w'):Grow w w':=⟨h.os,h.tape,h.output,h.size,fun k hk=>h.block k hk⟩
theorem yyc (u:Nat):(Go.Lib.decDigits u).length≤u / 2+1:=by
 induction u using Nat.strongRecOn with
 | ind u ih=>
  rw[Go.Lib.decDigits]
  split
  ·simp
  ·have:=ih (u / 10) (by omega)
   simp only[List.length_append,List.length_cons,List.length_nil]
   omega
theorem ywz {n:Int} (h1 : -9223372036854775808≤n) (h2:n≤9223372036854775807):(Go.Lib.itoa n).length≤maxLen:=by
 unfold Go.Lib.itoa maxLen
 split
 ·have:=yyc n.natAbs
  simp only[List.length_cons]
  omega
 ·have:=yyc n.toNat
  omega
theorem y3i (l:List UInt8) (c:Nat):(Go.Lib.repeatL l c).length=l.length * c:=by
 rw[Go.Lib.repeatL_length,Nat.mul_comm]
end Go.Ab


namespace Go.Ab
open Go Go.Proofs
def E18:Nat:=1000000000000000000
theorem y3e (m:Nat):Lib.itoa (m:Int)=Lib.decDigits m:=by
 unfold Lib.itoa;rw[if_neg (by omega)];simp
theorem yqq {n:Int} (h:¬ n<0):Lib.itoa n=Lib.decDigits n.natAbs:=by
 unfold Lib.itoa;rw[if_neg h];congr 1;omega
theorem yqe {n:Int} (h:n<0):Lib.itoa n=45::Lib.decDigits n.natAbs:=by
 unfold Lib.itoa;rw[if_pos h]
theorem yo4 (m:Nat):∃ c t,Lib.decDigits m=c::t∧c≠45:=by
 obtain⟨h1,h2,h3,h4⟩:=yxc m
 obtain⟨c,t,e⟩:=List.exists_cons_of_ne_nil h3
 refine⟨c,t,e,fun h => ?_⟩
 have:=h1 c (by rw[e];simp)
 subst h
 simp at this
theorem ydy {n n':Int} (h:Lib.itoa n=Lib.itoa n'):n=n':=by
 have hd:∀ m:Nat,digV 0 (Lib.decDigits m)=m:=fun m=>(yxc m).2.1
 by_cases h1:n<0<;>by_cases h2:n'<0
 ·rw[yqe h1,yqe h2]at h
  have:=congrArg (digV 0) (List.cons.inj h).2
  rw[hd,hd]at this
  omega
 ·obtain⟨c,t,e,hc⟩:=yo4 n'.toNat
  rw[yqe h1,show n'=(n'.toNat:Int)by omega,y3e,e]at h
  exact absurd (List.cons.inj h).1.symm hc
 ·obtain⟨c,t,e,hc⟩:=yo4 n.toNat
  rw[yqe h2,show n=(n.toNat:Int)by omega,y3e,e]at h
  exact absurd (List.cons.inj h).1 hc
 ·rw[show n=(n.toNat:Int)by omega,show n'=(n'.toNat:Int)by omega,y3e,y3e]at h
  have:=congrArg (digV 0) h
  rw[hd,hd]at this
  omega
def yrp (w:List UInt8) (r:Int×Bool):Prop:=
 (∃ n:Int,n.natAbs<E18∧w=Lib.itoa n∧r=(n,true))∨((∀ n:Int,n.natAbs<E18→w≠Lib.itoa n)∧r=(0,false))
theorem yrp.unique {w:List UInt8} {r r':Int×Bool} (h:yrp w r) (h':yrp w r'):r=r':=by
 rcases h with⟨n,h1,h2,rfl⟩|⟨h1,rfl⟩<;>rcases h' with⟨n',h1',h2',rfl⟩|⟨h1',rfl⟩
 ·rw[ydy (h2.symm.trans h2')]
 ·exact absurd h2 (h1' n h1)
 ·exact absurd h2' (h1 n' h1')
 ·rfl
end Go.Ab

namespace Go.Ab
open Go Go.Proofs
def zbh (a0:Int) (a1:Int):(List UInt8):=Go.Lib.itoa a0
theorem y83 (a0:Int) (a1:Int) (hp0:a1=10) (hp1 : -9223372036854775808≤a0) (hp2:a0≤9223372036854775807):Den Tryz.prog 219 [.int .i64 a0,.int .i64 a1] (.str (zbh a0 a1)):=by
 subst hp0
 refine Den.plain ⟨_,Tryz.func219,rfl,rfl⟩ (by simp[NoOwnL,NoOwn]) ?_
 intro w M vs hI hr
 simp only[RepL]at hr
 obtain⟨u0,us0,f0,g0,rfl,h0e,h0,u1,us1,f1,g1,rfl,h1e,h1,rfl,_⟩:=hr
 have e0:=h0.val_int
 have e1:=h1.val_int
 subst e0 e1
 refine(Any.strconv_FormatInt_10 Tryz.laysM173 a0 hp1 hp2 w hI.1.1).mono ?_
 rintro e w' ⟨rfl,k,os,rfl⟩
 exact⟨_,rfl,y7t w k os,fun M'=>ybc _ (ywz hp1 hp2)⟩
def D_zbh : DF
 | [x0,x1]=>some (.str (zbh (rdI x0) (rdI x1)),false,[wI .i64 x0,wI .i64 x1,(rdI x1)=10,-9223372036854775808≤(rdI x0),(rdI x0)≤9223372036854775807])
 | _=>none
theorem yc1:OkD Tryz.prog 219 D_zbh:=by
 intro xs r z ob h ho
 unfold D_zbh at h
 split at h
 ·simp only[Option.some.injEq,Prod.mk.injEq]at h
  obtain⟨rfl,rfl,rfl⟩:=h
  obtain⟨h0,h1,hp0,hp1,hp2,_⟩:=ho
  exact Den.sim (y83 _ _ hp0 hp1 hp2) (yfb (yxe h0).1 <| yfb (yxe h1).1 <| trivial) (yjb (yxe h0).2 <| yjb (yxe h1).2 <| rfl) rfl
 ·cases h
end Go.Ab

namespace Go.Ab
open Go Go.Proofs
def yak {α ρ σ : Type} (g : α → σ → Except ρ σ) : List α → σ → Except ρ σ
  | [],s=>.ok s
  | x :: t, s => match g x s with
    | .error r=>.error r
    | .ok s'=>yak g t s'
theorem y9e {α ρ σ : Type} (g : α → σ → Except ρ σ) (x : α) (t : List α) (s : σ) : yak g (x :: t) s = match g x s with
  | .error r=>.error r
  | .ok s'=>yak g t s':=rfl
theorem yqk {α ρ σ : Type} [Inhabited α] {b : Nat → σ → Except ρ σ} (g : α → σ → Except ρ σ) (l : List α) : ∀ (k i : Nat) (s : σ), i + k = l.length → (∀ j u, i ≤ j → j < l.length → b j u = g (l.getD j default) u) → yf b k i s = yak g (l.drop i) s
 | 0,i,s,h,_=>by rw[List.drop_eq_nil_of_le (by omega)];rfl
 | k+1,i,s,h,hb=>by
  have hi:i<l.length:=by omega
  rw[List.drop_eq_getElem_cons hi]
  simp only[yf,yak]
  rw[hb i s (Nat.le_refl _) hi,List.getD_eq_getElem?_getD,List.getElem?_eq_getElem hi,Option.getD_some]
  cases g l[i] s with
  | error r=>rfl
  | ok s'=>exact yqk g l k (i+1) s' (by omega) (fun j u h1 h2=>hb j u (by omega) h2)
theorem y3c {α ρ σ:Type} [Inhabited α] {b:Nat→σ→Except ρ σ} (g:α→σ→Except ρ σ) (l:List α) (s:σ) (hb:∀ j u,j<l.length→b j u=g (l.getD j default) u):yf b (l.length-0) 0 s=yak g l s:=by
 rw[yqk g l (l.length-0) 0 s (by omega) (fun j u _ h=>hb j u h),List.drop_zero]
theorem yym {j:Nat} (h:0<j) (hn:j<9223372036854775808):(IntKind.wrap .i64 ((j:Int)-1)).toNat=j-1:=by
 rw[IntKind.wrap_i64];omega
end Go.Ab

namespace Go.Ab
theorem yws {f : Nat → Int} {n : Nat} (hs : ∀ i, i + 1 < n → f i < f (i + 1)) : ∀ (d i : Nat), i + d + 1 < n → f i < f (i + d + 1)
 | 0,i,h=>hs i h
 | d+1,i,h=>by
  have h1:=yws hs d i (by omega)
  have h2:=hs (i+d+1) (by omega)
  have:i+(d+1)+1=i+d+1+1:=by omega
  rw[this];omega
theorem ypd {f:Nat→Int} {n:Nat} (hs:∀ i,i+1<n→f i<f (i+1)) {i k:Nat} (h:i<k) (hk:k<n):f i<f k:=by
 have:=yws hs (k-i-1) i (by omega)
 rwa [show i+(k-i-1)+1=k by omega]at this
theorem yuu {f arc:Nat→Int} {n:Nat} (hf:∀ i,i<n→0≤f i∧f i≤359) (hs:∀ i,i+1<n→f i<f (i+1)) :
  (∀ i,i<n→∀ k,k<n→k≠i→arc i≤(f k-f i) % 360)↔(1<n→∀ i,i<n→arc i≤(f ((i+1) % n)-f i+360) % 360):=by
 constructor
 ·intro h hn i hi
  have hne:(i+1) % n≠i:=by
   by_cases h2:i+1<n
   ·rw[Nat.mod_eq_of_lt h2];omega
   ·have:i+1=n:=by omega
    rw[this,Nat.mod_self];omega
  have:=h i hi ((i+1) % n) (Nat.mod_lt _ (by omega)) hne
  omega
 ·intro h i hi k hk hki
  have hn:1<n:=by omega
  have h1:=h hn i hi
  have fi:=hf i hi
  have fk:=hf k hk
  by_cases h2:i+1<n
  ·rw[Nat.mod_eq_of_lt h2]at h1
   have g:=hs i h2
   have fn:=hf (i+1) h2
   have e1:(f (i+1)-f i+360) % 360=f (i+1)-f i:=by omega
   rw[e1]at h1
   by_cases h3:i<k
   ·have:f (i+1)≤f k:=by
     by_cases h4:k=i+1
     ·rw[h4];omega
     ·have:=ypd hs (i:=i+1) (k:=k) (by omega) hk;omega
    have:(f k-f i) % 360=f k-f i:=by omega
    omega
   ·have:=ypd hs (i:=k) (k:=i) (by omega) hi
    have:(f k-f i) % 360=f k-f i+360:=by omega
    omega
  ·have hin:i+1=n:=by omega
   rw[hin,Nat.mod_self]at h1
   have f0:=hf 0 (by omega)
   have g:=ypd hs (i:=0) (k:=i) (by omega) hi
   have e1:(f 0-f i+360) % 360=f 0-f i+360:=by omega
   rw[e1]at h1
   have:f 0≤f k:=by
    by_cases h4:k=0
    ·rw[h4];omega
    ·have:=ypd hs (i:=0) (k:=k) (by omega) hk;omega
   have:=ypd hs (i:=k) (k:=i) (by omega) hi
   have:(f k-f i) % 360=f k-f i+360:=by omega
   omega
theorem y30 {f arc S : Nat → Int} {n : Nat} (hf : ∀ i, i < n → 0 ≤ f i ∧ f i ≤ 359) (hs : ∀ i, i + 1 < n → f i < f (i + 1)) (ha : ∀ i, i < n → 1 ≤ arc i ∧ arc i ≤ 360)
  (h:1<n→∀ i,i<n→arc i≤(f ((i+1) % n)-f i+360) % 360) (h0:S 0=0) (hS:∀ i,i<n→S (i+1)=S i+arc i):S n≤360:=by
 by_cases hn:1<n
 ·have key:∀ j,j<n→S j≤f j-f 0:=by
   intro j
   induction j with
   | zero=>intro _;rw[h0];omega
   | succ j ih=>
    intro hj
    have i1:=ih (by omega)
    have i2:=h hn j (by omega)
    rw[Nat.mod_eq_of_lt hj]at i2
    have g:=hs j hj
    have fj:=hf j (by omega)
    have fj1:=hf (j+1) hj
    have e1:(f (j+1)-f j+360) % 360=f (j+1)-f j:=by omega
    rw[hS j (by omega)];omega
  have k1:=key (n-1) (by omega)
  have i2:=h hn (n-1) (by omega)
  rw[show n-1+1=n by omega,Nat.mod_self]at i2
  have f0:=hf 0 (by omega)
  have fn:=hf (n-1) (by omega)
  have g:=ypd hs (i:=0) (k:=n-1) (by omega) (by omega)
  have e1:(f 0-f (n-1)+360) % 360=f 0-f (n-1)+360:=by omega
  have:=hS (n-1) (by omega)
  rw[show n-1+1=n by omega]at this
  omega
 ·by_cases h1:n=1
  ·subst h1
   have:=hS 0 (by omega)
   have a0:=ha 0 (by omega)
   simp only[Nat.zero_add]at this
   omega
  ·have:n=0:=by omega
   subst this
   omega
end Go.Ab
