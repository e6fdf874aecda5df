/- Walks and lemmas. No conditions. -/
import Derived.Shelf.Strings.OnBuilder
import Derived.Shelf.Small.Strs
import Derived.Shelf.Small.Wraps
import Derived.Shelf.Utf8.RuneCount
import Derived.Shelf.Strconv.Itoa4
import Derived.Shelf.Strconv.ErrVarParseInt
import Derived.Shelf.Strings.Shaped
import Derived.Shelf.Strings.SplitShaped
import Derived.Shelf.Strings.Explode
import Derived.Shelf.Strings.Repeat
import Derived.Shelf.Unicode.DecodeAny
import Derived.Shelf.Unicode.IsSpaceAny
import Derived.Shelf.Unicode.ExclAny
import Derived.Handy
import Derived.Test.YthmfknndfeepfaaGreatDoorEAi
import Derived.Test.YthmfknndfeepfaaGreatDoorEAf
import Derived.Test.YthmfknndfeepfaaGreatDoorEAj
set_option linter.unusedSectionVars false
set_option linter.unusedVariables false
set_option linter.unusedSimpArgs false
set_option maxHeartbeats 1000000
namespace Go.Ab
open Go Go.Proofs
def yyo (a0:(List Int)) (a1:(List Int)) (i1:Nat) (s1:Unit):Except (Bool) (Unit):=
 (bif ((a0.getD i1 default) != (a1.getD i1 default))then .error false else .ok ())
def zmd (a0:(List Int)) (a1:(List Int)):Bool:=
 (bif ((a0.length:Int) != (a1.length:Int))then false else(match ye (yyo a0 a1) (a0.length-0) 0 ()with|.error e=>e|.ok s1=>true))
namespace N216
theorem DD:DOk Tryz.prog (Go.Ab.DD []):=yc _
theorem den (a0:(List Int)) (a1:(List Int))  : Den Tryz.prog 216 [encL 1 yy a0,encL 1 yy a1] (.bool (zmd a0 a1)):=by
 generalize hR:zmd a0 a1=r;unfold zmd at hR;refine di Tryz.func216 Tryz.ntmps216 Tryz.results216 ?_;intro c hL hc hk;obtain⟨hL0,hL1,_⟩:=hL;have hw0:=lwA hL0;have hw1:=lwA hL1;clear hL0 hL1;simp only[pars,Nat.zero_add];iterate 2 refine rS ?_
 refine yb ?_ ?_<;>intro hb
 ·replace hR:=ct hR
  exact retR
 ·replace hR:=cf hR
  refine rS ?_;refine AWP.block ?_;generalize hz1:ye (yyo a0 a1) (a0.length-0) 0 ()=z1 at hR;refine AWP.range (yyo a0 a1) (fun i1 s1=>⟨[(0,encL 1 yy a0),(1,encL 1 yy a1),(12,.int .i64 (a0.length:Int)),(13,.int .i64 (i1:Int))],[]⟩) (fun i1 s1=>True) (a0.length) 0 () [] hz1 ot wt sm ?_;clear hz1;intro i1 s1 hi1 hW1 hz1;refine rS ?_;refine AWP.seq ?_;refine yb ?_ ?_<;>intro hb
  ·have hlt1:i1<a0.length:=ot
   rw[yi hlt1]at hz1;simp only[yyo]at hz1;refine rS ?_;refine rD 8 ?_;refine yb ?_ ?_<;>intro hb
   ·simp only[hb,cond_true]at hz1
    refine rS ?_;refine AWP.ret ?_;subst hz1;dsimp only at hR;subst hR;exact es
   ·simp only[hb,cond_false]at hz1
    refine rS ?_;exact⟨_,[],hlt1,wt,hz1,sm⟩
  ·obtain rfl:i1=a0.length:=ot
   exact retX
end N216
def D_zmd : DF
 | [x0,x1]=>some (.bool (zmd (rdL y5b x0) (rdL y5b x1)),false,[wL 1 yy y5b x0,wL 1 yy y5b x1])
 | _=>none
theorem ywx:OkD Tryz.prog 216 D_zmd:=by unfold D_zmd;exact dk N216.den
def ynm {α ρ σ : Type} (g : α -> σ -> Except ρ σ) : List α -> σ -> Except ρ σ
  | [],s=>.ok s
  | x :: t, s => match g x s with
    | .error r=>.error r
    | .ok s'=>ynm g t s'
theorem yxg {α ρ σ : Type} (g : α -> σ -> Except ρ σ) (x : α) (t : List α) (s : σ) : ynm g (x :: t) s = match g x s with
  | .error r=>.error r
  | .ok s'=>ynm g t s':=rfl
theorem yjo {α ρ σ : Type} [Inhabited α] {b : Nat -> σ -> Except ρ σ} (g : α -> σ -> Except ρ σ) (l : List α) : ∀ (k i : Nat) (s : σ), i + k = l.length -> (∀ j u, i <= j -> j < l.length -> b j u = g (l.getD j default) u) -> ye b k i s = ynm g (l.drop i) s
 | 0,i,s,h,_=>by rw[List.drop_eq_nil_of_le (by omega)];rfl
 | k+1,i,s,h,hb=>by
  have hi:i<l.length:=by omega
  rw[List.drop_eq_getElem_cons hi];simp only[ye,ynm];rw[hb i s (Nat.le_refl _) hi,List.getD_eq_getElem?_getD,List.getElem?_eq_getElem hi,Option.getD_some]
  cases g l[i] s with
  | error r=>rfl
  | ok s'=>exact yjo g l k (i+1) s' (by omega) (fun j u h1 h2=>hb j u (by omega) h2)
theorem yhe {α ρ σ:Type} [Inhabited α] {b:Nat->σ->Except ρ σ} (g:α->σ->Except ρ σ) (l:List α) (s:σ) (hb:∀ j u,j<l.length->b j u=g (l.getD j default) u):ye b (l.length-0) 0 s=ynm g l s:=by
 rw[yjo g l (l.length-0) 0 s (by omega) (fun j u _ h=>hb j u h),List.drop_zero]
theorem y45 {α β:Type} [Inhabited α] [Inhabited β] (f:α->β) (l:List α) (i:Nat) (h:i<l.length):(l.map f).getD i default=f (l.getD i default):=by
 simp[List.getD_eq_getElem?_getD,h]
theorem yos {j:Nat} (h:0<j) (hn:j<9223372036854775808):(IntKind.wrap .i64 ((j:Int)-1)).toNat=j-1:=by
 rw[IntKind.wrap_i64];omega
end Go.Ab
namespace Go.Ab
open Go Go.Proofs
theorem yod (a b:List UInt8):(Go.Lib.trimSuffix a b).length<=a.length:=by
 unfold Go.Lib.trimSuffix;split
 ·simp
 ·omega
theorem yov (a b:List UInt8):(Go.Lib.cut a b).1.length<=a.length/\(Go.Lib.cut a b).2.1.length<=a.length:=by
 unfold Go.Lib.cut;split
 ·simp only[List.length_take,List.length_drop];omega
 ·simp
theorem yb2 (w:World) (k:Nat):Grow w (w.drewN k):=⟨rfl,rfl,rfl,Nat.le_refl _,fun _ _=>rfl⟩
theorem ygcb {w:World} {M:Nat->Prop} {μ:Map} {x y:AV} {u v:Value} (h1:Rep w M x μ u []) (h2:Rep w M y μ v []):Rep w M (.tup [x,y]) μ (.tuple #[u,v]) []:=by
 simp only[Rep,RepL];exact⟨[u,v],rfl,u,[v],[],[],rfl,rfl,h1,v,[],[],[],rfl,rfl,h2,rfl,rfl⟩
theorem yf2 {w:World} {M:Nat->Prop} {μ:Map} {x y z:AV} {u v t:Value} (h1:Rep w M x μ u []) (h2:Rep w M y μ v []) (h3:Rep w M z μ t []):Rep w M (.tup [x,y,z]) μ (.tuple #[u,v,t]) []:=by
 simp only[Rep,RepL];exact⟨[u,v,t],rfl,u,[v,t],[],[],rfl,rfl,h1,v,[t],[],[],rfl,rfl,h2,t,[],[],[],rfl,rfl,h3,rfl,rfl⟩
end Go.Ab
namespace Go.Proofs
open Go.Shelf
def Tryz.lays156_ren:Go.Shelf.Ren:=⟨fun|156=>58|165=>104|166=>105|169=>106|240=>156|241=>157|276=>204|277=>205|n=>n,fun|31=>72|9=>9|3=>3|4=>4|0=>0|20=>20|72=>145|76=>149|70=>143|37=>22|75=>148|127=>179|164=>198|5=>5|80=>151|n=>n,fun|n=>n⟩
theorem Tryz.lays156 : Go.Proofs.Lays.n156 Tryz.prog Tryz.lays156_ren := {
 mixed:=by kernel_rfl
 f156:=Tryz.func58.trans (congrArg some (by kernel_rfl))
 f165:=Tryz.func104.trans (congrArg some (by kernel_rfl))
 f166:=Tryz.func105.trans (congrArg some (by kernel_rfl))
 f169:=Tryz.func106.trans (congrArg some (by kernel_rfl))
 f240:=Tryz.func156.trans (congrArg some (by kernel_rfl))
 f241:=Tryz.func157.trans (congrArg some (by kernel_rfl))
 f276:=Tryz.func204.trans (congrArg some (by kernel_rfl))
 f277:=Tryz.func205.trans (congrArg some (by kernel_rfl))
 t0:=Tryz.underlying0
 a0:=Tryz.isAgg0
 z0:=Tryz.sizeOf0
 v0:=Tryz.zeroValue0
 t3:=Tryz.underlying3
 a3:=Tryz.isAgg3
 z3:=Tryz.sizeOf3
 v3:=Tryz.zeroValue3
 t4:=Tryz.underlying4
 a4:=Tryz.isAgg4
 z4:=Tryz.sizeOf4
 v4:=Tryz.zeroValue4
 t9:=Tryz.underlying9
 a9:=Tryz.isAgg9
 z9:=Tryz.sizeOf9
 v9:=Tryz.zeroValue9
 t20:=Tryz.underlying20
 a20:=Tryz.isAgg20
 z20:=Tryz.sizeOf20
 v20:=Tryz.zeroValue20
 t31:=Tryz.underlying72
 a31:=Tryz.isAgg72
 z31:=Tryz.sizeOf72
 v31:=Tryz.zeroValue72
 t37:=Tryz.underlying22
 a37:=Tryz.isAgg22
 z37:=Tryz.sizeOf22
 v37:=Tryz.zeroValue22
 t70:=Tryz.underlying143
 a70:=Tryz.isAgg143
 z70:=Tryz.sizeOf143
 v70:=Tryz.zeroValue143
 t72:=Tryz.underlying145
 a72:=Tryz.isAgg145
 z72:=Tryz.sizeOf145
 v72:=Tryz.zeroValue145
 t75:=Tryz.underlying148
 a75:=Tryz.isAgg148
 z75:=Tryz.sizeOf148
 v75:=Tryz.zeroValue148
 t76:=Tryz.underlying149
 a76:=Tryz.isAgg149
 z76:=Tryz.sizeOf149
 v76:=Tryz.zeroValue149
 t127:=Tryz.underlying179
 a127:=Tryz.isAgg179
 z127:=Tryz.sizeOf179
 v127:=Tryz.zeroValue179
 t164:=Tryz.underlying198
 a164:=Tryz.isAgg198
 z164:=Tryz.sizeOf198
 v164:=Tryz.zeroValue198 }
theorem Tryz.Builder_Extra_156 : Builder.Extra Tryz.prog Tryz.lays156_ren := {
 sizeBuilder:=by kernel_rfl
 liesBuilder:=by kernel_rfl
 t5:=Tryz.underlying5
 a5:=Tryz.isAgg5
 z5:=Tryz.sizeOf5
 v5:=Tryz.zeroValue5
 infoByte:=by kernel_rfl
 cellsByte:=by kernel_rfl
 sizeByte:=by kernel_rfl
 neB5:=by decide }
def Tryz.lays137_ren:Go.Shelf.Ren:=⟨fun|137=>214|217=>227|266=>260|n=>n,fun|9=>9|5=>5|3=>3|n=>n,fun|n=>n⟩
theorem Tryz.lays137 : Go.Proofs.Lays.n137 Tryz.prog Tryz.lays137_ren := {
 mixed:=by kernel_rfl
 f137:=Tryz.func214.trans (congrArg some (by kernel_rfl))
 f217:=Tryz.func227.trans (congrArg some (by kernel_rfl))
 f266:=Tryz.func260.trans (congrArg some (by kernel_rfl))
 t3:=Tryz.underlying3
 a3:=Tryz.isAgg3
 z3:=Tryz.sizeOf3
 v3:=Tryz.zeroValue3
 t5:=Tryz.underlying5
 a5:=Tryz.isAgg5
 z5:=Tryz.sizeOf5
 v5:=Tryz.zeroValue5
 t9:=Tryz.underlying9
 a9:=Tryz.isAgg9
 z9:=Tryz.sizeOf9
 v9:=Tryz.zeroValue9 }
def Tryz.lays104_ren:Go.Shelf.Ren:=⟨fun|104=>183|211=>238|207=>239|n=>n,fun|9=>9|4=>4|24=>190|3=>3|n=>n,fun|n=>n⟩
theorem Tryz.lays104 : Go.Proofs.Lays.n104 Tryz.prog Tryz.lays104_ren := {
 mixed:=by kernel_rfl
 f104:=Tryz.func183.trans (congrArg some (by kernel_rfl))
 f207:=Tryz.func239.trans (congrArg some (by kernel_rfl))
 f211:=Tryz.func238.trans (congrArg some (by kernel_rfl))
 t3:=Tryz.underlying3
 a3:=Tryz.isAgg3
 z3:=Tryz.sizeOf3
 v3:=Tryz.zeroValue3
 t4:=Tryz.underlying4
 a4:=Tryz.isAgg4
 z4:=Tryz.sizeOf4
 v4:=Tryz.zeroValue4
 t9:=Tryz.underlying9
 a9:=Tryz.isAgg9
 z9:=Tryz.sizeOf9
 v9:=Tryz.zeroValue9
 t24:=Tryz.underlying190
 a24:=Tryz.isAgg190
 z24:=Tryz.sizeOf190
 v24:=Tryz.zeroValue190 }
def Tryz.laysM173_ren:Go.Shelf.Ren:=⟨fun|173=>107|246=>158|283=>206|284=>207|285=>208|286=>209|129=>254|317=>253|318=>255|319=>256|320=>257|337=>272|338=>273|n=>n,fun|2=>2|3=>3|9=>9|4=>4|171=>202|0=>0|53=>81|37=>22|5=>5|173=>205|212=>229|51=>230|20=>20|213=>231|46=>168|232=>268|233=>269|n=>n,fun|17=>2|18=>8|19=>9|n=>n⟩
theorem Tryz.laysM173 : Go.Proofs.LaysM.n173 Tryz.prog Tryz.laysM173_ren := {
 mixed:=by kernel_rfl
 f129:=Tryz.func254.trans (congrArg some (by kernel_rfl))
 f173:=Tryz.func107.trans (congrArg some (by kernel_rfl))
 f246:=Tryz.func158.trans (congrArg some (by kernel_rfl))
 f283:=Tryz.func206.trans (congrArg some (by kernel_rfl))
 f284:=Tryz.func207.trans (congrArg some (by kernel_rfl))
 f285:=Tryz.func208.trans (congrArg some (by kernel_rfl))
 f286:=Tryz.func209.trans (congrArg some (by kernel_rfl))
 f317:=Tryz.func253.trans (congrArg some (by kernel_rfl))
 f318:=Tryz.func255.trans (congrArg some (by kernel_rfl))
 f319:=Tryz.func256.trans (congrArg some (by kernel_rfl))
 f320:=Tryz.func257.trans (congrArg some (by kernel_rfl))
 f337:=Tryz.func272.trans (congrArg some (by kernel_rfl))
 f338:=Tryz.func273.trans (congrArg some (by kernel_rfl))
 t0:=Tryz.underlying0
 a0:=Tryz.isAgg0
 z0:=Tryz.sizeOf0
 v0:=Tryz.zeroValue0
 t2:=Tryz.underlying2
 a2:=Tryz.isAgg2
 z2:=Tryz.sizeOf2
 v2:=Tryz.zeroValue2
 t3:=Tryz.underlying3
 a3:=Tryz.isAgg3
 z3:=Tryz.sizeOf3
 v3:=Tryz.zeroValue3
 t4:=Tryz.underlying4
 a4:=Tryz.isAgg4
 z4:=Tryz.sizeOf4
 v4:=Tryz.zeroValue4
 t5:=Tryz.underlying5
 a5:=Tryz.isAgg5
 z5:=Tryz.sizeOf5
 v5:=Tryz.zeroValue5
 t9:=Tryz.underlying9
 a9:=Tryz.isAgg9
 z9:=Tryz.sizeOf9
 v9:=Tryz.zeroValue9
 t20:=Tryz.underlying20
 a20:=Tryz.isAgg20
 z20:=Tryz.sizeOf20
 v20:=Tryz.zeroValue20
 t37:=Tryz.underlying22
 a37:=Tryz.isAgg22
 z37:=Tryz.sizeOf22
 v37:=Tryz.zeroValue22
 t46:=Tryz.underlying168
 a46:=Tryz.isAgg168
 z46:=Tryz.sizeOf168
 v46:=Tryz.zeroValue168
 t51:=Tryz.underlying230
 a51:=Tryz.isAgg230
 z51:=Tryz.sizeOf230
 v51:=Tryz.zeroValue230
 t53:=Tryz.underlying81
 a53:=Tryz.isAgg81
 z53:=Tryz.sizeOf81
 v53:=Tryz.zeroValue81
 t171:=Tryz.underlying202
 a171:=Tryz.isAgg202
 z171:=Tryz.sizeOf202
 v171:=Tryz.zeroValue202
 t173:=Tryz.underlying205
 a173:=Tryz.isAgg205
 z173:=Tryz.sizeOf205
 v173:=Tryz.zeroValue205
 t212:=Tryz.underlying229
 a212:=Tryz.isAgg229
 z212:=Tryz.sizeOf229
 v212:=Tryz.zeroValue229
 t213:=Tryz.underlying231
 a213:=Tryz.isAgg231
 z213:=Tryz.sizeOf231
 t232:=Tryz.underlying268
 a232:=Tryz.isAgg268
 z232:=Tryz.sizeOf268
 v232:=Tryz.zeroValue268
 t233:=Tryz.underlying269
 a233:=Tryz.isAgg269
 z233:=Tryz.sizeOf269
 v233:=Tryz.zeroValue269
 g17:=by kernel_rfl
 g18:=by kernel_rfl
 g19:=by kernel_rfl
 i0:=by kernel_rfl
 i2:=by kernel_rfl
 i3:=by kernel_rfl
 i4:=by kernel_rfl
 i5:=by kernel_rfl
 i9:=by kernel_rfl
 i20:=by kernel_rfl
 i37:=by kernel_rfl
 i46:=by kernel_rfl
 i51:=by kernel_rfl
 i53:=by kernel_rfl
 i171:=by kernel_rfl
 i173:=by kernel_rfl
 i212:=by kernel_rfl
 i232:=by kernel_rfl
 i233:=by kernel_rfl
 m17:=by kernel_rfl
 m18:=by kernel_rfl
 m19:=by kernel_rfl }
def Tryz.laysC174_ren:Go.Shelf.Ren:=⟨fun|174=>121|247=>177|245=>178|287=>232|279=>233|280=>234|281=>235|282=>236|321=>262|322=>263|316=>264|171=>266|205=>265|243=>274|246=>158|283=>206|284=>207|285=>208|286=>209|129=>254|317=>253|318=>255|319=>256|320=>257|337=>272|338=>273|n=>n,fun|9=>9|3=>3|2=>2|75=>148|85=>160|4=>4|167=>214|5=>5|53=>81|175=>215|46=>168|168=>217|37=>22|0=>0|210=>245|21=>21|127=>179|145=>255|143=>253|171=>202|173=>205|212=>229|51=>230|20=>20|213=>231|232=>268|233=>269|80=>151|n=>n,fun|15=>5|16=>6|17=>2|18=>8|19=>9|n=>n⟩
theorem Tryz.laysC174 : Go.Proofs.LaysC.n174 Tryz.prog Tryz.laysC174_ren := {
 mixed:=by kernel_rfl
 f129:=Tryz.func254.trans (congrArg some (by kernel_rfl))
 f171:=Tryz.func266.trans (congrArg some (by kernel_rfl))
 f174:=Tryz.func121.trans (congrArg some (by kernel_rfl))
 f205:=Tryz.func265.trans (congrArg some (by kernel_rfl))
 f243:=Tryz.func274.trans (congrArg some (by kernel_rfl))
 f245:=Tryz.func178.trans (congrArg some (by kernel_rfl))
 f246:=Tryz.func158.trans (congrArg some (by kernel_rfl))
 f247:=Tryz.func177.trans (congrArg some (by kernel_rfl))
 f279:=Tryz.func233.trans (congrArg some (by kernel_rfl))
 f280:=Tryz.func234.trans (congrArg some (by kernel_rfl))
 f281:=Tryz.func235.trans (congrArg some (by kernel_rfl))
 f282:=Tryz.func236.trans (congrArg some (by kernel_rfl))
 f283:=Tryz.func206.trans (congrArg some (by kernel_rfl))
 f284:=Tryz.func207.trans (congrArg some (by kernel_rfl))
 f285:=Tryz.func208.trans (congrArg some (by kernel_rfl))
 f286:=Tryz.func209.trans (congrArg some (by kernel_rfl))
 f287:=Tryz.func232.trans (congrArg some (by kernel_rfl))
 f316:=Tryz.func264.trans (congrArg some (by kernel_rfl))
 f317:=Tryz.func253.trans (congrArg some (by kernel_rfl))
 f318:=Tryz.func255.trans (congrArg some (by kernel_rfl))
 f319:=Tryz.func256.trans (congrArg some (by kernel_rfl))
 f320:=Tryz.func257.trans (congrArg some (by kernel_rfl))
 f321:=Tryz.func262.trans (congrArg some (by kernel_rfl))
 f322:=Tryz.func263.trans (congrArg some (by kernel_rfl))
 f337:=Tryz.func272.trans (congrArg some (by kernel_rfl))
 f338:=Tryz.func273.trans (congrArg some (by kernel_rfl))
 t0:=Tryz.underlying0
 a0:=Tryz.isAgg0
 z0:=Tryz.sizeOf0
 v0:=Tryz.zeroValue0
 t2:=Tryz.underlying2
 a2:=Tryz.isAgg2
 z2:=Tryz.sizeOf2
 v2:=Tryz.zeroValue2
 t3:=Tryz.underlying3
 a3:=Tryz.isAgg3
 z3:=Tryz.sizeOf3
 v3:=Tryz.zeroValue3
 t4:=Tryz.underlying4
 a4:=Tryz.isAgg4
 z4:=Tryz.sizeOf4
 v4:=Tryz.zeroValue4
 t5:=Tryz.underlying5
 a5:=Tryz.isAgg5
 z5:=Tryz.sizeOf5
 v5:=Tryz.zeroValue5
 t9:=Tryz.underlying9
 a9:=Tryz.isAgg9
 z9:=Tryz.sizeOf9
 v9:=Tryz.zeroValue9
 t20:=Tryz.underlying20
 a20:=Tryz.isAgg20
 z20:=Tryz.sizeOf20
 v20:=Tryz.zeroValue20
 t21:=Tryz.underlying21
 a21:=Tryz.isAgg21
 z21:=Tryz.sizeOf21
 v21:=Tryz.zeroValue21
 t37:=Tryz.underlying22
 a37:=Tryz.isAgg22
 z37:=Tryz.sizeOf22
 v37:=Tryz.zeroValue22
 t46:=Tryz.underlying168
 a46:=Tryz.isAgg168
 z46:=Tryz.sizeOf168
 v46:=Tryz.zeroValue168
 t51:=Tryz.underlying230
 a51:=Tryz.isAgg230
 z51:=Tryz.sizeOf230
 v51:=Tryz.zeroValue230
 t53:=Tryz.underlying81
 a53:=Tryz.isAgg81
 z53:=Tryz.sizeOf81
 v53:=Tryz.zeroValue81
 t75:=Tryz.underlying148
 a75:=Tryz.isAgg148
 z75:=Tryz.sizeOf148
 v75:=Tryz.zeroValue148
 t85:=Tryz.underlying160
 a85:=Tryz.isAgg160
 z85:=Tryz.sizeOf160
 v85:=Tryz.zeroValue160
 t127:=Tryz.underlying179
 a127:=Tryz.isAgg179
 z127:=Tryz.sizeOf179
 v127:=Tryz.zeroValue179
 t143:=Tryz.underlying253
 a143:=Tryz.isAgg253
 z143:=Tryz.sizeOf253
 v143:=Tryz.zeroValue253
 t145:=Tryz.underlying255
 a145:=Tryz.isAgg255
 z145:=Tryz.sizeOf255
 v145:=Tryz.zeroValue255
 t167:=Tryz.underlying214
 a167:=Tryz.isAgg214
 z167:=Tryz.sizeOf214
 v167:=Tryz.zeroValue214
 t168:=Tryz.underlying217
 a168:=Tryz.isAgg217
 z168:=Tryz.sizeOf217
 v168:=Tryz.zeroValue217
 t171:=Tryz.underlying202
 a171:=Tryz.isAgg202
 z171:=Tryz.sizeOf202
 v171:=Tryz.zeroValue202
 t173:=Tryz.underlying205
 a173:=Tryz.isAgg205
 z173:=Tryz.sizeOf205
 v173:=Tryz.zeroValue205
 t175:=Tryz.underlying215
 a175:=Tryz.isAgg215
 z175:=Tryz.sizeOf215
 v175:=Tryz.zeroValue215
 t210:=Tryz.underlying245
 a210:=Tryz.isAgg245
 z210:=Tryz.sizeOf245
 v210:=Tryz.zeroValue245
 t212:=Tryz.underlying229
 a212:=Tryz.isAgg229
 z212:=Tryz.sizeOf229
 v212:=Tryz.zeroValue229
 t213:=Tryz.underlying231
 a213:=Tryz.isAgg231
 z213:=Tryz.sizeOf231
 t232:=Tryz.underlying268
 a232:=Tryz.isAgg268
 z232:=Tryz.sizeOf268
 v232:=Tryz.zeroValue268
 t233:=Tryz.underlying269
 a233:=Tryz.isAgg269
 z233:=Tryz.sizeOf269
 v233:=Tryz.zeroValue269
 g15:=by kernel_rfl
 g16:=by kernel_rfl
 g17:=by kernel_rfl
 g18:=by kernel_rfl
 g19:=by kernel_rfl
 t80:=Tryz.underlying151
 a80:=Tryz.isAgg151
 z80:=Tryz.sizeOf151
 v80:=Tryz.zeroValue151
 i0:=by kernel_rfl
 i2:=by kernel_rfl
 i3:=by kernel_rfl
 i4:=by kernel_rfl
 i5:=by kernel_rfl
 i9:=by kernel_rfl
 i20:=by kernel_rfl
 i21:=by kernel_rfl
 i37:=by kernel_rfl
 i46:=by kernel_rfl
 i51:=by kernel_rfl
 i53:=by kernel_rfl
 i75:=by kernel_rfl
 i80:=by kernel_rfl
 i85:=by kernel_rfl
 i127:=by kernel_rfl
 i143:=by kernel_rfl
 i145:=by kernel_rfl
 i167:=by kernel_rfl
 i168:=by kernel_rfl
 i171:=by kernel_rfl
 i173:=by kernel_rfl
 i175:=by kernel_rfl
 i210:=by kernel_rfl
 i212:=by kernel_rfl
 i232:=by kernel_rfl
 i233:=by kernel_rfl
 m15:=by kernel_rfl
 m16:=by kernel_rfl
 m17:=by kernel_rfl
 m18:=by kernel_rfl
 m19:=by kernel_rfl
 c0:=by kernel_rfl
 c2:=by kernel_rfl
 c3:=by kernel_rfl
 c4:=by kernel_rfl
 c5:=by kernel_rfl
 c9:=by kernel_rfl
 c20:=by kernel_rfl
 c21:=by kernel_rfl
 c37:=by kernel_rfl
 c46:=by kernel_rfl
 c51:=by kernel_rfl
 c53:=by kernel_rfl
 c75:=by kernel_rfl
 c80:=by kernel_rfl
 c85:=by kernel_rfl
 c127:=by kernel_rfl
 c143:=by kernel_rfl
 c145:=by kernel_rfl
 c167:=by kernel_rfl
 c168:=by kernel_rfl
 c171:=by kernel_rfl
 c173:=by kernel_rfl
 c175:=by kernel_rfl
 c210:=by kernel_rfl
 c212:=by kernel_rfl
 c213:=by kernel_rfl
 c232:=by kernel_rfl
 c233:=by kernel_rfl }
def Tryz.lays144_ren:Go.Shelf.Ren:=⟨fun|144=>169|143=>119|219=>175|217=>227|225=>228|224=>229|267=>230|266=>260|314=>261|n=>n,fun|9=>9|4=>4|3=>3|5=>5|46=>168|146=>234|51=>230|n=>n,fun|1=>0|n=>n⟩
theorem Tryz.lays144 : Go.Proofs.Lays.n144 Tryz.prog Tryz.lays144_ren := {
 mixed:=by kernel_rfl
 f143:=Tryz.func119.trans (congrArg some (by kernel_rfl))
 f144:=Tryz.func169.trans (congrArg some (by kernel_rfl))
 f217:=Tryz.func227.trans (congrArg some (by kernel_rfl))
 f219:=Tryz.func175.trans (congrArg some (by kernel_rfl))
 f224:=Tryz.func229.trans (congrArg some (by kernel_rfl))
 f225:=Tryz.func228.trans (congrArg some (by kernel_rfl))
 f266:=Tryz.func260.trans (congrArg some (by kernel_rfl))
 f267:=Tryz.func230.trans (congrArg some (by kernel_rfl))
 f314:=Tryz.func261.trans (congrArg some (by kernel_rfl))
 t3:=Tryz.underlying3
 a3:=Tryz.isAgg3
 z3:=Tryz.sizeOf3
 v3:=Tryz.zeroValue3
 t4:=Tryz.underlying4
 a4:=Tryz.isAgg4
 z4:=Tryz.sizeOf4
 v4:=Tryz.zeroValue4
 t5:=Tryz.underlying5
 a5:=Tryz.isAgg5
 z5:=Tryz.sizeOf5
 v5:=Tryz.zeroValue5
 t9:=Tryz.underlying9
 a9:=Tryz.isAgg9
 z9:=Tryz.sizeOf9
 v9:=Tryz.zeroValue9
 t46:=Tryz.underlying168
 a46:=Tryz.isAgg168
 z46:=Tryz.sizeOf168
 v46:=Tryz.zeroValue168
 t51:=Tryz.underlying230
 a51:=Tryz.isAgg230
 z51:=Tryz.sizeOf230
 v51:=Tryz.zeroValue230
 t146:=Tryz.underlying234
 a146:=Tryz.isAgg234
 z146:=Tryz.sizeOf234
 v146:=Tryz.zeroValue234
 g1:=by kernel_rfl }
def Tryz.lays145_ren:Go.Shelf.Ren:=⟨fun|145=>124|220=>182|219=>175|217=>227|225=>228|224=>229|267=>230|266=>260|314=>261|n=>n,fun|9=>9|4=>4|59=>164|3=>3|5=>5|46=>168|146=>234|51=>230|n=>n,fun|1=>0|n=>n⟩
theorem Tryz.lays145 : Go.Proofs.Lays.n145 Tryz.prog Tryz.lays145_ren := {
 mixed:=by kernel_rfl
 f145:=Tryz.func124.trans (congrArg some (by kernel_rfl))
 f217:=Tryz.func227.trans (congrArg some (by kernel_rfl))
 f219:=Tryz.func175.trans (congrArg some (by kernel_rfl))
 f220:=Tryz.func182.trans (congrArg some (by kernel_rfl))
 f224:=Tryz.func229.trans (congrArg some (by kernel_rfl))
 f225:=Tryz.func228.trans (congrArg some (by kernel_rfl))
 f266:=Tryz.func260.trans (congrArg some (by kernel_rfl))
 f267:=Tryz.func230.trans (congrArg some (by kernel_rfl))
 f314:=Tryz.func261.trans (congrArg some (by kernel_rfl))
 t3:=Tryz.underlying3
 a3:=Tryz.isAgg3
 z3:=Tryz.sizeOf3
 v3:=Tryz.zeroValue3
 t4:=Tryz.underlying4
 a4:=Tryz.isAgg4
 z4:=Tryz.sizeOf4
 v4:=Tryz.zeroValue4
 t5:=Tryz.underlying5
 a5:=Tryz.isAgg5
 z5:=Tryz.sizeOf5
 v5:=Tryz.zeroValue5
 t9:=Tryz.underlying9
 a9:=Tryz.isAgg9
 z9:=Tryz.sizeOf9
 v9:=Tryz.zeroValue9
 t46:=Tryz.underlying168
 a46:=Tryz.isAgg168
 z46:=Tryz.sizeOf168
 v46:=Tryz.zeroValue168
 t51:=Tryz.underlying230
 a51:=Tryz.isAgg230
 z51:=Tryz.sizeOf230
 v51:=Tryz.zeroValue230
 t59:=Tryz.underlying164
 a59:=Tryz.isAgg164
 z59:=Tryz.sizeOf164
 v59:=Tryz.zeroValue164
 t146:=Tryz.underlying234
 a146:=Tryz.isAgg234
 z146:=Tryz.sizeOf234
 v146:=Tryz.zeroValue234
 g1:=by kernel_rfl }
def Tryz.lays101_ren:Go.Shelf.Ren:=⟨fun|101=>120|208=>176|206=>231|n=>n,fun|9=>9|4=>4|3=>3|n=>n,fun|n=>n⟩
theorem Tryz.lays101 : Go.Proofs.Lays.n101 Tryz.prog Tryz.lays101_ren := {
 mixed:=by kernel_rfl
 f101:=Tryz.func120.trans (congrArg some (by kernel_rfl))
 f206:=Tryz.func231.trans (congrArg some (by kernel_rfl))
 f208:=Tryz.func176.trans (congrArg some (by kernel_rfl))
 t3:=Tryz.underlying3
 a3:=Tryz.isAgg3
 z3:=Tryz.sizeOf3
 v3:=Tryz.zeroValue3
 t4:=Tryz.underlying4
 a4:=Tryz.isAgg4
 z4:=Tryz.sizeOf4
 v4:=Tryz.zeroValue4
 t9:=Tryz.underlying9
 a9:=Tryz.isAgg9
 z9:=Tryz.sizeOf9
 v9:=Tryz.zeroValue9 }
def Tryz.lays102_ren:Go.Shelf.Ren:=⟨fun|102=>128|209=>184|207=>239|n=>n,fun|9=>9|4=>4|3=>3|n=>n,fun|n=>n⟩
theorem Tryz.lays102 : Go.Proofs.Lays.n102 Tryz.prog Tryz.lays102_ren := {
 mixed:=by kernel_rfl
 f102:=Tryz.func128.trans (congrArg some (by kernel_rfl))
 f207:=Tryz.func239.trans (congrArg some (by kernel_rfl))
 f209:=Tryz.func184.trans (congrArg some (by kernel_rfl))
 t3:=Tryz.underlying3
 a3:=Tryz.isAgg3
 z3:=Tryz.sizeOf3
 v3:=Tryz.zeroValue3
 t4:=Tryz.underlying4
 a4:=Tryz.isAgg4
 z4:=Tryz.sizeOf4
 v4:=Tryz.zeroValue4
 t9:=Tryz.underlying9
 a9:=Tryz.isAgg9
 z9:=Tryz.sizeOf9
 v9:=Tryz.zeroValue9 }
def Tryz.lays146_ren:Go.Shelf.Ren:=⟨fun|146=>32|221=>67|268=>117|138=>118|143=>119|195=>172|197=>173|218=>174|219=>175|260=>226|217=>227|225=>228|224=>229|267=>230|266=>260|314=>261|n=>n,fun|9=>9|31=>72|3=>3|4=>4|0=>0|105=>185|21=>21|5=>5|46=>168|119=>224|139=>241|138=>240|146=>234|51=>230|n=>n,fun|1=>0|3=>3|4=>4|n=>n⟩
theorem Tryz.lays146 : Go.Proofs.Lays.n146 Tryz.prog Tryz.lays146_ren := {
 mixed:=by kernel_rfl
 f138:=Tryz.func118.trans (congrArg some (by kernel_rfl))
 f143:=Tryz.func119.trans (congrArg some (by kernel_rfl))
 f146:=Tryz.func32.trans (congrArg some (by kernel_rfl))
 f195:=Tryz.func172.trans (congrArg some (by kernel_rfl))
 f197:=Tryz.func173.trans (congrArg some (by kernel_rfl))
 f217:=Tryz.func227.trans (congrArg some (by kernel_rfl))
 f218:=Tryz.func174.trans (congrArg some (by kernel_rfl))
 f219:=Tryz.func175.trans (congrArg some (by kernel_rfl))
 f221:=Tryz.func67.trans (congrArg some (by kernel_rfl))
 f224:=Tryz.func229.trans (congrArg some (by kernel_rfl))
 f225:=Tryz.func228.trans (congrArg some (by kernel_rfl))
 f260:=Tryz.func226.trans (congrArg some (by kernel_rfl))
 f266:=Tryz.func260.trans (congrArg some (by kernel_rfl))
 f267:=Tryz.func230.trans (congrArg some (by kernel_rfl))
 f268:=Tryz.func117.trans (congrArg some (by kernel_rfl))
 f314:=Tryz.func261.trans (congrArg some (by kernel_rfl))
 t0:=Tryz.underlying0
 a0:=Tryz.isAgg0
 z0:=Tryz.sizeOf0
 v0:=Tryz.zeroValue0
 t3:=Tryz.underlying3
 a3:=Tryz.isAgg3
 z3:=Tryz.sizeOf3
 v3:=Tryz.zeroValue3
 t4:=Tryz.underlying4
 a4:=Tryz.isAgg4
 z4:=Tryz.sizeOf4
 v4:=Tryz.zeroValue4
 t5:=Tryz.underlying5
 a5:=Tryz.isAgg5
 z5:=Tryz.sizeOf5
 v5:=Tryz.zeroValue5
 t9:=Tryz.underlying9
 a9:=Tryz.isAgg9
 z9:=Tryz.sizeOf9
 v9:=Tryz.zeroValue9
 t21:=Tryz.underlying21
 a21:=Tryz.isAgg21
 z21:=Tryz.sizeOf21
 v21:=Tryz.zeroValue21
 t31:=Tryz.underlying72
 a31:=Tryz.isAgg72
 z31:=Tryz.sizeOf72
 v31:=Tryz.zeroValue72
 t46:=Tryz.underlying168
 a46:=Tryz.isAgg168
 z46:=Tryz.sizeOf168
 v46:=Tryz.zeroValue168
 t51:=Tryz.underlying230
 a51:=Tryz.isAgg230
 z51:=Tryz.sizeOf230
 v51:=Tryz.zeroValue230
 t105:=Tryz.underlying185
 a105:=Tryz.isAgg185
 z105:=Tryz.sizeOf185
 v105:=Tryz.zeroValue185
 t119:=Tryz.underlying224
 a119:=Tryz.isAgg224
 z119:=Tryz.sizeOf224
 t138:=Tryz.underlying240
 a138:=Tryz.isAgg240
 z138:=Tryz.sizeOf240
 v138:=Tryz.zeroValue240
 t139:=Tryz.underlying241
 a139:=Tryz.isAgg241
 z139:=Tryz.sizeOf241
 v139:=Tryz.zeroValue241
 t146:=Tryz.underlying234
 a146:=Tryz.isAgg234
 z146:=Tryz.sizeOf234
 v146:=Tryz.zeroValue234
 g1:=by kernel_rfl
 g3:=by kernel_rfl
 g4:=by kernel_rfl }
def Tryz.lays157_ren:Go.Shelf.Ren:=⟨fun|157=>202|229=>250|199=>251|261=>271|311=>276|312=>277|n=>n,fun|9=>9|31=>72|3=>3|5=>5|4=>4|119=>224|0=>0|40=>226|152=>247|21=>21|154=>249|51=>230|141=>251|196=>260|193=>257|198=>263|49=>261|194=>258|201=>266|226=>270|46=>168|227=>271|n=>n,fun|0=>1|6=>7|n=>n⟩
theorem Tryz.lays157 : Go.Proofs.Lays.n157 Tryz.prog Tryz.lays157_ren := {
 mixed:=by kernel_rfl
 f157:=Tryz.func202.trans (congrArg some (by kernel_rfl))
 f199:=Tryz.func251.trans (congrArg some (by kernel_rfl))
 f229:=Tryz.func250.trans (congrArg some (by kernel_rfl))
 f261:=Tryz.func271.trans (congrArg some (by kernel_rfl))
 f311:=Tryz.func276.trans (congrArg some (by kernel_rfl))
 f312:=Tryz.func277.trans (congrArg some (by kernel_rfl))
 t0:=Tryz.underlying0
 a0:=Tryz.isAgg0
 z0:=Tryz.sizeOf0
 v0:=Tryz.zeroValue0
 t3:=Tryz.underlying3
 a3:=Tryz.isAgg3
 z3:=Tryz.sizeOf3
 v3:=Tryz.zeroValue3
 t4:=Tryz.underlying4
 a4:=Tryz.isAgg4
 z4:=Tryz.sizeOf4
 v4:=Tryz.zeroValue4
 t5:=Tryz.underlying5
 a5:=Tryz.isAgg5
 z5:=Tryz.sizeOf5
 v5:=Tryz.zeroValue5
 t9:=Tryz.underlying9
 a9:=Tryz.isAgg9
 z9:=Tryz.sizeOf9
 v9:=Tryz.zeroValue9
 t21:=Tryz.underlying21
 a21:=Tryz.isAgg21
 z21:=Tryz.sizeOf21
 v21:=Tryz.zeroValue21
 t31:=Tryz.underlying72
 a31:=Tryz.isAgg72
 z31:=Tryz.sizeOf72
 v31:=Tryz.zeroValue72
 t40:=Tryz.underlying226
 a40:=Tryz.isAgg226
 z40:=Tryz.sizeOf226
 v40:=Tryz.zeroValue226
 t46:=Tryz.underlying168
 a46:=Tryz.isAgg168
 z46:=Tryz.sizeOf168
 v46:=Tryz.zeroValue168
 t49:=Tryz.underlying261
 a49:=Tryz.isAgg261
 z49:=Tryz.sizeOf261
 v49:=Tryz.zeroValue261
 t51:=Tryz.underlying230
 a51:=Tryz.isAgg230
 z51:=Tryz.sizeOf230
 v51:=Tryz.zeroValue230
 t119:=Tryz.underlying224
 a119:=Tryz.isAgg224
 z119:=Tryz.sizeOf224
 t141:=Tryz.underlying251
 a141:=Tryz.isAgg251
 z141:=Tryz.sizeOf251
 v141:=Tryz.zeroValue251
 t152:=Tryz.underlying247
 a152:=Tryz.isAgg247
 z152:=Tryz.sizeOf247
 v152:=Tryz.zeroValue247
 t154:=Tryz.underlying249
 a154:=Tryz.isAgg249
 z154:=Tryz.sizeOf249
 v154:=Tryz.zeroValue249
 t193:=Tryz.underlying257
 a193:=Tryz.isAgg257
 z193:=Tryz.sizeOf257
 v193:=Tryz.zeroValue257
 t194:=Tryz.underlying258
 a194:=Tryz.isAgg258
 z194:=Tryz.sizeOf258
 v194:=Tryz.zeroValue258
 t196:=Tryz.underlying260
 a196:=Tryz.isAgg260
 z196:=Tryz.sizeOf260
 v196:=Tryz.zeroValue260
 t198:=Tryz.underlying263
 a198:=Tryz.isAgg263
 z198:=Tryz.sizeOf263
 v198:=Tryz.zeroValue263
 t201:=Tryz.underlying266
 a201:=Tryz.isAgg266
 z201:=Tryz.sizeOf266
 v201:=Tryz.zeroValue266
 t226:=Tryz.underlying270
 a226:=Tryz.isAgg270
 z226:=Tryz.sizeOf270
 v226:=Tryz.zeroValue270
 t227:=Tryz.underlying271
 a227:=Tryz.isAgg271
 z227:=Tryz.sizeOf271
 v227:=Tryz.zeroValue271
 g0:=by kernel_rfl
 g6:=by kernel_rfl }
def Tryz.lays105_ren:Go.Shelf.Ren:=⟨fun|105=>161|212=>211|99=>212|165=>104|166=>105|170=>213|169=>106|263=>258|264=>259|206=>231|240=>156|241=>157|276=>204|277=>205|n=>n,fun|9=>9|3=>3|4=>4|20=>20|0=>0|46=>168|109=>208|5=>5|72=>145|76=>149|51=>230|146=>234|53=>81|148=>236|70=>143|37=>22|75=>148|127=>179|164=>198|80=>151|n=>n,fun|n=>n⟩
theorem Tryz.lays105 : Go.Proofs.Lays.n105 Tryz.prog Tryz.lays105_ren := {
 mixed:=by kernel_rfl
 f99:=Tryz.func212.trans (congrArg some (by kernel_rfl))
 f105:=Tryz.func161.trans (congrArg some (by kernel_rfl))
 f165:=Tryz.func104.trans (congrArg some (by kernel_rfl))
 f166:=Tryz.func105.trans (congrArg some (by kernel_rfl))
 f169:=Tryz.func106.trans (congrArg some (by kernel_rfl))
 f170:=Tryz.func213.trans (congrArg some (by kernel_rfl))
 f206:=Tryz.func231.trans (congrArg some (by kernel_rfl))
 f212:=Tryz.func211.trans (congrArg some (by kernel_rfl))
 f240:=Tryz.func156.trans (congrArg some (by kernel_rfl))
 f241:=Tryz.func157.trans (congrArg some (by kernel_rfl))
 f263:=Tryz.func258.trans (congrArg some (by kernel_rfl))
 f264:=Tryz.func259.trans (congrArg some (by kernel_rfl))
 f276:=Tryz.func204.trans (congrArg some (by kernel_rfl))
 f277:=Tryz.func205.trans (congrArg some (by kernel_rfl))
 t0:=Tryz.underlying0
 a0:=Tryz.isAgg0
 z0:=Tryz.sizeOf0
 v0:=Tryz.zeroValue0
 t3:=Tryz.underlying3
 a3:=Tryz.isAgg3
 z3:=Tryz.sizeOf3
 v3:=Tryz.zeroValue3
 t4:=Tryz.underlying4
 a4:=Tryz.isAgg4
 z4:=Tryz.sizeOf4
 v4:=Tryz.zeroValue4
 t5:=Tryz.underlying5
 a5:=Tryz.isAgg5
 z5:=Tryz.sizeOf5
 v5:=Tryz.zeroValue5
 t9:=Tryz.underlying9
 a9:=Tryz.isAgg9
 z9:=Tryz.sizeOf9
 v9:=Tryz.zeroValue9
 t20:=Tryz.underlying20
 a20:=Tryz.isAgg20
 z20:=Tryz.sizeOf20
 v20:=Tryz.zeroValue20
 t37:=Tryz.underlying22
 a37:=Tryz.isAgg22
 z37:=Tryz.sizeOf22
 v37:=Tryz.zeroValue22
 t46:=Tryz.underlying168
 a46:=Tryz.isAgg168
 z46:=Tryz.sizeOf168
 v46:=Tryz.zeroValue168
 t51:=Tryz.underlying230
 a51:=Tryz.isAgg230
 z51:=Tryz.sizeOf230
 v51:=Tryz.zeroValue230
 t53:=Tryz.underlying81
 a53:=Tryz.isAgg81
 z53:=Tryz.sizeOf81
 v53:=Tryz.zeroValue81
 t70:=Tryz.underlying143
 a70:=Tryz.isAgg143
 z70:=Tryz.sizeOf143
 v70:=Tryz.zeroValue143
 t72:=Tryz.underlying145
 a72:=Tryz.isAgg145
 z72:=Tryz.sizeOf145
 v72:=Tryz.zeroValue145
 t75:=Tryz.underlying148
 a75:=Tryz.isAgg148
 z75:=Tryz.sizeOf148
 v75:=Tryz.zeroValue148
 t76:=Tryz.underlying149
 a76:=Tryz.isAgg149
 z76:=Tryz.sizeOf149
 v76:=Tryz.zeroValue149
 t109:=Tryz.underlying208
 a109:=Tryz.isAgg208
 z109:=Tryz.sizeOf208
 v109:=Tryz.zeroValue208
 t127:=Tryz.underlying179
 a127:=Tryz.isAgg179
 z127:=Tryz.sizeOf179
 v127:=Tryz.zeroValue179
 t146:=Tryz.underlying234
 a146:=Tryz.isAgg234
 z146:=Tryz.sizeOf234
 v146:=Tryz.zeroValue234
 t148:=Tryz.underlying236
 a148:=Tryz.isAgg236
 z148:=Tryz.sizeOf236
 v148:=Tryz.zeroValue236
 t164:=Tryz.underlying198
 a164:=Tryz.isAgg198
 z164:=Tryz.sizeOf198
 v164:=Tryz.zeroValue198 }
theorem Tryz.Builder_Extra_105 : Builder.Extra Tryz.prog Tryz.lays105_ren := {
 sizeBuilder:=by kernel_rfl
 liesBuilder:=by kernel_rfl
 t5:=Tryz.underlying5
 a5:=Tryz.isAgg5
 z5:=Tryz.sizeOf5
 v5:=Tryz.zeroValue5
 infoByte:=by kernel_rfl
 cellsByte:=by kernel_rfl
 sizeByte:=by kernel_rfl
 neB5:=by decide }
end Go.Proofs
namespace Go.Ab
open Go Go.Proofs
def zeg (a0:(List UInt8)) (a1:Int):Int:=Go.Lib.indexByte a0 a1.toNat.toUInt8
theorem ylbb (a0:(List UInt8)) (a1:Int)  : Den Tryz.prog 214 [.str a0,.int .u8 a1] (.int .i64 (zeg a0 a1)):=by
 refine Den.plain ⟨_,Tryz.func214,rfl,rfl⟩ (by simp[yvb,y3b]) ?_;intro w M vs hI hr;simp only[RepL]at hr;obtain⟨u0,us0,f0,g0,rfl,h0e,h0,u1,us1,f1,g1,rfl,h1e,h1,rfl,_⟩:=hr;have e0:=h0.val_str;have e1:=h1.val_int;subst e0 e1;refine(Any.strings_IndexByte Tryz.lays137 ⟨a0.toArray⟩ a1 w).mono ?_;rintro e w' ⟨rfl,rfl⟩
 exact⟨_,rfl,Grow.refl _,fun M'=>yqb _ _⟩
def D_zeg : DF
 | [x0,x1]=>some (.int .i64 (zeg (rdS x0) (rdI x1)),false,[wS x0,wI .u8 x1])
 | _=>none
theorem yy9:OkD Tryz.prog 214 D_zeg:=by
 intro xs r z ob h ho;unfold D_zeg at h;split at h
 ·simp only[Option.some.injEq,Prod.mk.injEq]at h
  obtain⟨rfl,rfl,rfl⟩:=h;obtain⟨h0,h1,_⟩:=ho;exact Den.sim (ylbb _ _ ) (yv (yob h0).1 <| yv (yke h1).1 <| trivial) (y7 (yob h0).2 <| y7 (yke h1).2 <| rfl) rfl
 ·cases h
end Go.Ab
namespace Go.Ab
open Go
def y0d:List (List UInt8):=[[46,45],[45,46,46,46],[45,46,45,46],[45,46,46],[46],[46,46,45,46],[45,45,46],[46,46,46,46],[46,46],[46,45,45,45],[45,46,45],[46,45,46,46],[45,45],[45,46],[45,45,45],[46,45,45,46],[45,45,46,45],[46,45,46],[46,46,46],[45],[46,46,45],[46,46,46,45],[46,45,45],[45,46,46,45],[45,46,45,45],[45,45,46,46]]
theorem yai:∀ x∈y0d,1<=x.length/\x.length<=4/\∀ c∈x,c=45\/c=46:=by decide
theorem ydm (n:Nat):(y0d.getD n default).length<=4:=by
 rw[List.getD_eq_getElem?_getD]
 cases h:y0d[n]? with
 | none=>show(0:Nat)<=4;omega
 | some x=>exact(yai x (List.mem_of_getElem? h)).2.1
theorem y15 (n:Nat):(([[46,45],[45,46,46,46],[45,46,45,46],[45,46,46],[46],[46,46,45,46],[45,45,46],[46,46,46,46],[46,46],[46,45,45,45],[45,46,45],[46,45,46,46],[45,45],[45,46],[45,45,45],[46,45,45,46],[45,45,46,45],[46,45,46],[46,46,46],[45],[46,46,45],[46,46,46,45],[46,45,45],[45,46,46,45],[45,46,45,45],[45,45,46,46]]:List (List UInt8)).getD n default).length<=4:=ydm n
theorem yaj (a:List UInt8) (c:UInt8) (h:a.length=1):Op.bytesLess a [c]=decide ((a.getD 0 0).toNat<c.toNat):=by
 obtain⟨x,rfl⟩:=List.length_eq_one_iff.1 h;simp only[Op.bytesLess,Bool.and_false,Bool.or_false,List.getD_cons_zero];rfl
theorem yg3 (a:List UInt8) (c:UInt8) (h:a.length=1):(a == [c])=decide ((a.getD 0 0).toNat=c.toNat):=by
 obtain⟨x,rfl⟩:=List.length_eq_one_iff.1 h;apply Bool.eq_iff_iff.2;simp[UInt8.toNat_inj]
theorem y7l (n:Int) (h1:0<=n) (h2:n<256):IntKind.wrap .u8 n=n:=by
 have:IntKind.wrap .u8 n=n % 256:=rfl;rw[this];omega
theorem ym4 (a:List UInt8) (h:((a.length:Int)=1/\Op.bytesLess a [65]=false)/\(Op.bytesLess a [90]=true\/(a == [90])=true)) :
  0<=IntKind.wrap .u8 (((a.getD 0 0).toNat:Int)-65)/\IntKind.wrap .u8 (((a.getD 0 0).toNat:Int)-65)<26/\0<=IntKind.wrap .u8 (((a.getD 0 0).toNat:Int) + -65)/\IntKind.wrap .u8 (((a.getD 0 0).toNat:Int) + -65)<26:=by
 have h1:a.length=1:=by omega
 rw[yaj a 65 h1,yaj a 90 h1,yg3 a 90 h1]at h;have e1:(65:UInt8).toNat=65:=rfl;have e2:(90:UInt8).toNat=90:=rfl;rw[e1,e2]at h;simp only[decide_eq_true_eq,decide_eq_false_iff_not]at h;have hx:65<=(a.getD 0 0).toNat/\(a.getD 0 0).toNat<=90:=by omega
 rw[y7l _ (by omega) (by omega),y7l _ (by omega) (by omega)];omega
theorem y9c {ρ α : Type} (b : Nat -> List α -> Except ρ (List α)) (f : Nat -> List α) : ∀ (n i : Nat) (s : List α), (∀ j s, i <= j -> j < i + n -> b j s = .ok (s ++ f j)) -> ye b n i s = .ok (s ++ (List.range' i n).flatMap f)
 | 0,i,s,_=>by simp[ye]
 | n+1,i,s,h=>by
  simp only[ye];rw[h i s (Nat.le_refl _) (by omega)];simp only;rw[y9c b f n (i+1) _ (fun j s h1 h2=>h j s (by omega) (by omega)),List.range'_succ,List.flatMap_cons,List.append_assoc]
theorem y7n {ρ σ:Type} {b b':Nat->σ->Except ρ σ} (n i:Nat) (s:σ) (h:∀ j u,i<=j->j<i+n->b j u=b' j u):ye b n i s=ye b' n i s:=loopR_congr0 n i s h
where
 loopR_congr0 {ρ σ:Type} {b b':Nat->σ->Except ρ σ}:∀ (n i:Nat) (s:σ),(∀ j u,i<=j->j<i+n->b j u=b' j u)->ye b n i s=ye b' n i s
 | 0,i,s,_=>rfl
 | n+1,i,s,h=>by
  simp only[ye];rw[h i s (Nat.le_refl _) (by omega)]
  cases b' i s with
  | error r=>rfl
  | ok t=>exact loopR_congr0 n (i+1) t (fun j u h1 h2=>h j u (by omega) (by omega))
theorem ydi {α β:Type} (l:List α) (d:α) (f:α->β):(List.range' 0 l.length).flatMap (fun j=>[f (l.getD j d)])=l.map f:=by
 rw[<- List.map_eq_flatMap];apply List.ext_getElem
 ·simp
 ·intro i h1 h2
  simp only[List.length_map]at h2;simp[List.getD_eq_getElem?_getD,h2]
def yle (l:List UInt8):Prop:=∀ b∈l,48<=b.toNat/\b.toNat<=57
instance (l:List UInt8):Decidable (yle l):=by unfold yle;infer_instance
def digV (n:Nat) (l:List UInt8):Nat:=l.foldl (fun k b=>10 * k+(b.toNat-48)) n
theorem yjf (n:Nat):digV n []=n:=List.foldl_nil
theorem ybc (n:Nat) (c:UInt8) (l:List UInt8):digV n (c::l)=digV (10 * n+(c.toNat-48)) l:=List.foldl_cons ..
theorem yu2 (b:UInt8) (l:List UInt8) (n:Nat):digV n (l++[b])=10 * digV n l+(b.toNat-48):=by
 unfold digV;rw[List.foldl_append,List.foldl_cons,List.foldl_nil]
theorem yjbb (l:List UInt8):∀ (n:Nat),yle l->digV n l<(n+1) * 10 ^ l.length:=by
 induction l with
 | nil=>intro n _;rw[yjf,List.length_nil,Nat.pow_zero];omega
 | cons c l ih=>
  intro n h;have hc:=h c (by simp);have h1:=ih (10 * n+(c.toNat-48)) (fun b hb=>h b (by simp[hb]));rw[ybc,List.length_cons,Nat.pow_succ];have h2:(10 * n+(c.toNat-48)+1) * 10 ^ l.length<=((n+1) * 10) * 10 ^ l.length:=Nat.mul_le_mul_right _ (by omega);have h3:((n+1) * 10) * 10 ^ l.length=(n+1) * (10 ^ l.length * 10):=by rw[Nat.mul_assoc,Nat.mul_comm 10]
  omega
theorem yk2 (l:List UInt8):∀ (n:Nat),n * 10 ^ l.length<=digV n l:=by
 induction l with
 | nil=>intro n;rw[yjf,List.length_nil,Nat.pow_zero];omega
 | cons c l ih=>
  intro n;have h1:=ih (10 * n+(c.toNat-48));rw[ybc,List.length_cons,Nat.pow_succ];have h2:(n * 10) * 10 ^ l.length<=(10 * n+(c.toNat-48)) * 10 ^ l.length:=Nat.mul_le_mul_right _ (by omega);have h3:(n * 10) * 10 ^ l.length=n * (10 ^ l.length * 10):=by rw[Nat.mul_assoc,Nat.mul_comm 10]
  omega
theorem yyb (m:Nat) (h:¬ m<10):Lib.decDigits m=Lib.decDigits (m / 10)++[UInt8.ofNat (48+m % 10)]:=by
 rw[Lib.decDigits,dif_neg h]
theorem y5o (d:Nat) (h:d<10):(UInt8.ofNat (48+d)).toNat=48+d:=by
 rw[UInt8.toNat_ofNat'];omega
theorem yxb (m:Nat):yle (Lib.decDigits m)/\digV 0 (Lib.decDigits m)=m/\Lib.decDigits m≠[]/\(1<=m->(Lib.decDigits m).getD 0 0≠48):=by
 induction m using Nat.strongRecOn with
 | ind m ih=>
  by_cases h:m<10
  ·rw[Lib.decDigits_one h]
   refine⟨fun b hb => ?_,?_,by simp,fun h1 => ?_⟩
   ·simp only[List.mem_singleton]at hb
    subst hb;rw[y5o m h];omega
   ·rw[ybc,yjf,y5o m h];omega
   ·intro e
    have e2:(UInt8.ofNat (48+m)).toNat=48:=by
     have:(UInt8.ofNat (48+m))=48:=by simpa using e
     rw[this];rfl
    rw[y5o m h]at e2;omega
  ·obtain⟨i1,i2,i3,i4⟩:=ih (m / 10) (by omega)
   rw[yyb m h];refine⟨fun b hb => ?_,?_,by simp,fun _ => ?_⟩
   ·rcases List.mem_append.1 hb with hb|hb
    ·exact i1 b hb
    ·simp only[List.mem_singleton]at hb
     subst hb;rw[y5o _ (by omega)];omega
   ·rw[yu2,i2,y5o _ (by omega)];omega
   ·obtain⟨c,t,e⟩:=List.exists_cons_of_ne_nil i3
    have:=i4 (by omega);rw[e]at this ⊢;simpa using this
theorem ycd (m:Nat):(Lib.decDigits m).length<=18↔m<1000000000000000000:=by
 obtain⟨h1,h2,h3,h4⟩:=yxb m;constructor
 ·intro h
  have:=yjbb (Lib.decDigits m) 0 h1;rw[h2]at this;have h5:10 ^ (Lib.decDigits m).length<=10 ^ 18:=Nat.pow_le_pow_right (by decide) h;have h6:(10:Nat) ^ 18=1000000000000000000:=by decide
  omega
 ·intro h
  by_cases hl:(Lib.decDigits m).length<=18
  ·exact hl
  ·exfalso
   obtain⟨c,t,e⟩:=List.exists_cons_of_ne_nil h3
   have hm:1<=m:=by
    by_cases h0:m=0
    ·subst h0;rw[Lib.decDigits_one (by decide)]at hl;simp at hl
    ·omega
   have h48:=h4 hm;rw[e]at h48 h1 h2 hl;have hc:=h1 c (by simp)
   have hc1:49<=c.toNat:=by
    have:c.toNat≠48:=fun e2=>h48 (by
     have:c=48:=UInt8.toNat_inj.1 (by rw[e2];rfl)
     simp[this])
    omega
   have h5:=yk2 t (10 * 0+(c.toNat-48));have h6:digV 0 (c::t)=digV (10 * 0+(c.toNat-48)) t:=ybc ..;have h7:10 ^ 18<=10 ^ t.length:=Nat.pow_le_pow_right (by decide) (by simp at hl;omega);have h8:(10:Nat) ^ 18=1000000000000000000:=by decide
   have h9:1 * 10 ^ t.length<=(10 * 0+(c.toNat-48)) * 10 ^ t.length:=Nat.mul_le_mul_right _ (by omega);omega
theorem y0n (M:Nat) (l:List UInt8):∀ (n:Nat),yle l->digV n l<=M->M<18446744073709551616->Lib.parseUintM M n l=.ok (digV n l):=by
 induction l with
 | nil=>intro n _ _ _;rw[yjf,Lib.parseUintM]
 | cons c l ih=>
  intro n h hM h64;have hc:=h c (by simp);have h1:=yk2 l (10 * n+(c.toNat-48));have h2:1<=10 ^ l.length:=Nat.one_le_pow _ _ (by decide);have h3:(10 * n+(c.toNat-48)) * 1<=(10 * n+(c.toNat-48)) * 10 ^ l.length:=Nat.mul_le_mul_left _ h2;rw[ybc]at hM ⊢;rw[Lib.parseUintM,if_pos hc,if_neg (by omega),if_neg (by omega),Nat.mul_comm n 10];exact ih _ (fun b hb=>h b (by simp[hb])) hM h64
end Go.Ab
namespace Go.Ab
open Go Go.Proofs
theorem yho (w:World) (k:Nat) (os:Array Obj):Grow w (Go.Sort.grow (w.drewN k) os):=by
 refine⟨rfl,rfl,rfl,?_,fun i hi => ?_⟩
 ·show w.heap.size<=(w.heap++os).size
  simp
 ·show(w.heap++os)[i]? = w.heap[i]?
  rw[Array.getElem?_append_left hi]
open Go.RowKit in
theorem y6g {w w':World} (h:Below w.heap.size w w'):Grow w w':=⟨h.os,h.tape,h.output,h.size,fun k hk=>h.block k hk⟩
theorem y2d (u:Nat):(Go.Lib.decDigits u).length<=u / 2+1:=by
 induction u using Nat.strongRecOn with
 | ind u ih=>
  rw[Go.Lib.decDigits];split
  ·simp
  ·have:=ih (u / 10) (by omega)
   simp only[List.length_append,List.length_cons,List.length_nil];omega
theorem ym7 {n:Int} (h1 : -9223372036854775808<=n) (h2:n<=9223372036854775807):(Go.Lib.itoa n).length<=maxLen:=by
 unfold Go.Lib.itoa maxLen;split
 ·have:=y2d n.natAbs
  simp only[List.length_cons];omega
 ·have:=y2d n.toNat
  omega
theorem ywl (l:List UInt8) (c:Nat):(Go.Lib.repeatL l c).length=l.length * c:=by
 rw[Go.Lib.repeatL_length,Nat.mul_comm]
end Go.Ab
namespace Go.Ab
open Go Go.Proofs Go.RowKit
def y8b (s:List UInt8):Int×Bool:=
 if 18 < (Go.Lib.trimPrefix s [45]).length then (0, false) else match Go.Lib.parseIntB 64 s with
  | .ok v=>if Go.Lib.itoa v=s then(v,true)else(0,false)
  | _=>(0,false)
theorem Grow.trans' {a b c:World} (h1:Grow a b) (h2:Grow b c):Grow a c:=
 ⟨h2.os.trans h1.os,h2.tape.trans h1.tape,h2.output.trans h1.output,Nat.le_trans h1.size h2.size,fun k hk=>(h2.block k (Nat.lt_of_lt_of_le hk h1.size)).trans (h1.block k hk)⟩
theorem Grow.refl' (a:World):Grow a a:=⟨rfl,rfl,rfl,Nat.le_refl _,fun _ _=>rfl⟩
theorem y74 {w w':World} (h:ycu w) (hg:Grow w w'):ycu w':=
 inv0.stable w w' h hg.os fun b hb=>hg.block b (inv0.inside w h b hb)
theorem yvz (s:ByteArray) (w:World):Calls Tryz.prog 120 #[.string s,.string ⟨#[45]⟩] w fun e w'=>e=.returned (.string ⟨(Go.Lib.trimPrefix s.data.toList [45]).toArray⟩)/\w'=w:=
 Any.strings_TrimPrefix Tryz.lays101 s ⟨#[45]⟩ w
theorem y8z (w:World) (e:TypeId) (t:ByteArray):Grow w (Go.Lib.bytesWorld w e t):=by
 unfold Go.Lib.bytesWorld World.freeze;rw[if_neg (by decide)]
 have hs:(w.drew.alloc (.cells (Go.Lib.bytesCells w e t) e)).heap.size=w.heap.size+1:=by
  show(w.heap.push _).size=_;simp
 refine⟨rfl,rfl,rfl,?_,fun k hk => ?_⟩
 ·show w.heap.size<=(Array.modify _ _ _).size
  rw[Array.size_modify,hs];omega
 ·show(Array.modify _ _ _)[k]? = _
  rw[Array.getElem?_modify,if_neg (by show ¬ w.heap.size=k;omega)];show(w.heap.push _)[k]? = _;rw[Array.getElem?_push,if_neg (by omega)]
theorem yrv (s:ByteArray) (w:World) (hs:s.size<=1048576) (hw:ycu w):Calls Tryz.prog 121 #[.string s,.int .i64 10,.int .i64 64] w fun e w'=>
  Grow w w'/\((∃ v,Go.Lib.parseIntB 64 s.data.toList=.ok v/\e=.returned (.tuple #[.int .i64 v,.nilIface]))\/((∀ v,Go.Lib.parseIntB 64 s.data.toList≠.ok v)/\∃ v t p,e=.returned (.tuple #[.int .i64 v,.iface t p]))):=by
 cases h:Go.Lib.parseIntB 64 s.data.toList with
 | ok v=>
  refine(Any.strconv_ParseInt_10_at64_ok Tryz.laysC174 s (by omega) v h w).mono ?_;rintro e w' ⟨rfl,hw'⟩
  refine⟨?_,.inl ⟨v,rfl,rfl⟩⟩;rcases hw' with rfl|⟨t,rfl⟩
  ·exact Grow.refl' _
  ·exact y8z _ _ _
 | range=>
  obtain⟨te,pe,hc⟩:=hw.2.2.1;refine(Any.strconv_ParseInt_10_at64_range Tryz.laysC174 s (by omega) h _ w hc (.inr ⟨te,pe,rfl⟩)).mono ?_;rintro e w' ⟨N,rfl,_,_,hB⟩
  exact⟨y6g hB,.inr ⟨by simp,_,_,_,rfl⟩⟩
 | _ =>
  obtain⟨te,pe,hc⟩:=hw.2.1;refine(Any.strconv_ParseInt_10_at64_syntax Tryz.laysC174 s (by omega) h _ w hc (.inr ⟨te,pe,rfl⟩)).mono ?_;rintro e w' ⟨N,rfl,_,_,hB⟩
  exact⟨y6g hB,.inr ⟨by simp,_,_,_,rfl⟩⟩
theorem ykt (n:Int) (w:World) (h0 : -9223372036854775808<=n) (h1:n<=9223372036854775807) (hw:ycu w):Calls Tryz.prog 107 #[.int .i64 n,.int .i64 10] w fun e w'=>
  e=.returned (.string ⟨(Go.Lib.itoa n).toArray⟩)/\Grow w w':=by
 refine(Any.strconv_FormatInt_10 Tryz.laysM173 n h0 h1 w hw.1.1).mono ?_;rintro e w' ⟨rfl,k,os,rfl⟩
 exact⟨rfl,yho w k os⟩
theorem yfr (n:Int) (w:World) (h0 : -9223372036854775808<=n) (h1:n<=9223372036854775807) (hw:ycu w):Calls Tryz.prog 59 #[.int .i64 n] w fun e w'=>
  e=.returned (.string ⟨(Go.Lib.itoa n).toArray⟩)/\Grow w w':=by
 go_enter Tryz.func59,Tryz.ntmps59
 go_wp2_with (go_at_call 107;refine(ykt _ _ h0 h1 hw).mono ?_;rintro e w' ⟨rfl,hg⟩)
 go_ret
 exact⟨rfl,hg⟩
set_option maxHeartbeats 1000000 in
theorem ymu (s:ByteArray) (w:World) (hs:s.size<=1048576) (hw:ycu w):Calls Tryz.prog 69 #[.string s] w fun e w'=>
  Grow w w'/\e=.returned (.tuple #[.int .i64 (y8b s.data.toList).1,.bool (y8b s.data.toList).2]):=by
 go_enter Tryz.func69,Tryz.ntmps69
 go_wp2_with (first
  | (go_at_call 120;refine(yvz _ _).mono ?_;rintro e w' ⟨rfl,rfl⟩)
  | (go_at_call 121;refine(yrv _ _ hs hw).mono ?_;rintro e w' ⟨hg,⟨v,hv,rfl⟩|⟨hv,v,t,p,rfl⟩⟩)
  | (go_at_call 59;have hb:=Go.Lib.parseIntB_bounds hv;refine(yfr _ _ (by omega) (by omega) (y74 hw hg)).mono ?_;rintro e w'' ⟨rfl,hg2⟩))
 ·go_ret2
  rename_i h
  have h:18<(Go.Lib.trimPrefix s.data.toList [45]).length:=by omega
  refine⟨Grow.refl' _,?_⟩;unfold y8b;rw[if_pos h];rfl
 ·go_ret2
  rename_i hne
  rw[ByteArray.toList_eq]at hne;have hne:Go.Lib.itoa v≠s.data.toList:=by simpa using hne
  refine⟨Grow.trans' hg hg2,?_⟩;unfold y8b;rw[if_neg (by omega),hv];simp only;rw[if_neg hne];rfl
 ·go_ret2
  rename_i hne
  rw[ByteArray.toList_eq]at hne;have hne:Go.Lib.itoa v=s.data.toList:=by simpa using hne
  refine⟨Grow.trans' hg hg2,?_⟩;unfold y8b;rw[if_neg (by omega),hv];simp only;rw[if_pos hne];rfl
 ·go_ret2
  refine⟨hg,?_⟩;unfold y8b;rw[if_neg (by omega)]
  cases hp:Go.Lib.parseIntB 64 s.data.toList with
  | ok v=>exact absurd hp (hv v)
  | _=>rfl
theorem ysv (a0:List UInt8) (hp0:a0.length<=1048576):Den Tryz.prog 69 [.str a0] (.tup [.int .i64 (y8b a0).1,.bool (y8b a0).2]):=by
 refine Den.plain ⟨_,Tryz.func69,rfl,rfl⟩ (by simp[yvb,y3b]) ?_;intro w M vs hI hr;simp only[RepL]at hr;obtain⟨u0,us0,f0,g0,rfl,h0e,h0,rfl,_⟩:=hr;have e0:=h0.val_str;subst e0;refine(ymu ⟨a0.toArray⟩ w (by show a0.length<=_;omega) hI).mono ?_;rintro e w' ⟨hg,rfl⟩
 refine⟨_,rfl,hg,fun M' => ?_⟩;simp only[Rep];exact⟨_,rfl,by simp only[RepL];exact⟨_,[_],[],[],rfl,rfl,yqb _ _,_,[],[],[],rfl,rfl,y2c _,rfl,rfl⟩⟩
end Go.Ab
namespace Go.Ab
open Go Go.Proofs
def E18:Nat:=1000000000000000000
theorem y0g (m:Nat):Lib.itoa (m:Int)=Lib.decDigits m:=by
 unfold Lib.itoa;rw[if_neg (by omega)];simp
theorem y3f {n:Int} (h:¬ n<0):Lib.itoa n=Lib.decDigits n.natAbs:=by
 unfold Lib.itoa;rw[if_neg h];congr 1;omega
theorem ybd {n:Int} (h:n<0):Lib.itoa n=45::Lib.decDigits n.natAbs:=by
 unfold Lib.itoa;rw[if_pos h]
theorem yy7 (m:Nat):∃ c t,Lib.decDigits m=c::t/\c≠45:=by
 obtain⟨h1,h2,h3,h4⟩:=yxb m;obtain⟨c,t,e⟩:=List.exists_cons_of_ne_nil h3;refine⟨c,t,e,fun h => ?_⟩;have:=h1 c (by rw[e];simp);subst h;simp at this
theorem yml {n n':Int} (h:Lib.itoa n=Lib.itoa n'):n=n':=by
 have hd:∀ m:Nat,digV 0 (Lib.decDigits m)=m:=fun m=>(yxb m).2.1
 by_cases h1:n<0<;>by_cases h2:n'<0
 ·rw[ybd h1,ybd h2]at h
  have:=congrArg (digV 0) (List.cons.inj h).2;rw[hd,hd]at this;omega
 ·obtain⟨c,t,e,hc⟩:=yy7 n'.toNat
  rw[ybd h1,show n'=(n'.toNat:Int)by omega,y0g,e]at h;exact absurd (List.cons.inj h).1.symm hc
 ·obtain⟨c,t,e,hc⟩:=yy7 n.toNat
  rw[ybd h2,show n=(n.toNat:Int)by omega,y0g,e]at h;exact absurd (List.cons.inj h).1 hc
 ·rw[show n=(n.toNat:Int)by omega,show n'=(n'.toNat:Int)by omega,y0g,y0g]at h
  have:=congrArg (digV 0) h;rw[hd,hd]at this;omega
theorem ysu (n:Int):(Lib.trimPrefix (Lib.itoa n) [45]).length=(Lib.decDigits n.natAbs).length:=by
 by_cases h:n<0
 ·rw[ybd h];simp[Lib.trimPrefix,Lib.hasPrefix]
 ·obtain⟨c,t,e,hc⟩:=yy7 n.toNat
  rw[y3f h];rw[show n.toNat=n.natAbs by omega]at e;unfold Lib.trimPrefix Lib.hasPrefix;rw[if_neg (by rw[e];simp;exact fun h=>hc h.symm)]
theorem ysj (n:Int) (h1:n.natAbs<E18):Lib.parseIntB 64 (Lib.itoa n)=.ok n:=by
 unfold E18 at h1;obtain⟨d1,d2,d3,d4⟩:=yxb n.natAbs
 have hp:Lib.parseUintB 64 (Lib.decDigits n.natAbs)=.ok n.natAbs:=by
  unfold Lib.parseUintB;rw[if_neg d3,y0n _ _ 0 d1 (by rw[d2];omega) (by decide),d2]
 by_cases h:n<0
 ·rw[ybd h,Lib.parseIntB_minus,hp]
  show(if 2 ^ (64-1)<n.natAbs then _ else _)=_;rw[if_neg (by omega)];congr 1;omega
 ·obtain⟨c,t,e,hc⟩:=yy7 n.natAbs
  have e2:=y3f h;have hc1:=d1 c (by rw[e];simp);rw[e2];rw[e]at hp ⊢;rw[Lib.parseIntB_plain 64 c t (by omega) (by omega),hp];show(if 2 ^ (64-1)<=n.natAbs then _ else _)=_;rw[if_neg (by omega)];congr 1;omega
def ygq (w:List UInt8) (r:Int×Bool):Prop:=
 (∃ n:Int,n.natAbs<E18/\w=Lib.itoa n/\r=(n,true))\/((∀ n:Int,n.natAbs<E18->w≠Lib.itoa n)/\r=(0,false))
theorem ygq.unique {w:List UInt8} {r r':Int×Bool} (h:ygq w r) (h':ygq w r'):r=r':=by
 rcases h with⟨n,h1,h2,rfl⟩|⟨h1,rfl⟩<;>rcases h' with⟨n',h1',h2',rfl⟩|⟨h1',rfl⟩
 ·rw[yml (h2.symm.trans h2')]
 ·exact absurd h2 (h1' n h1)
 ·exact absurd h2' (h1 n' h1')
 ·rfl
theorem yjg (w:List UInt8):ygq w (y8b w):=by
 unfold y8b;by_cases h18:18<(Lib.trimPrefix w [45]).length
 ·rw[if_pos h18]
  refine .inr ⟨fun n hn e => ?_,rfl⟩;subst e;rw[ysu]at h18;have:=(ycd n.natAbs).2 hn;omega
 ·rw[if_neg h18]
  cases hp:Lib.parseIntB 64 w with
  | ok v=>
   simp only;by_cases hv:Lib.itoa v=w
   ·rw[if_pos hv]
    refine .inl ⟨v,?_,hv.symm,rfl⟩;subst hv;rw[ysu]at h18;exact(ycd v.natAbs).1 (by omega)
   ·rw[if_neg hv]
    refine .inr ⟨fun n hn e => ?_,rfl⟩;subst e;rw[ysj n hn]at hp;cases hp
    exact hv rfl
  | _ => exact .inr ⟨fun n hn e=>(by subst e;rw[ysj n hn]at hp;cases hp),rfl⟩
theorem wid {n:Int} (h1 : -9223372036854775808<=n) (h2:n<=9223372036854775807):IntKind.wrap .i64 n=n:=by
 rw[IntKind.wrap_i64];omega
theorem ybo (a:List UInt8) (b:Nat->Int->Except (Int×Bool) Int) (hb:∀ i s,b i s=(bif (!(decide (48<=((a.getD i 0).toNat:Int)) && decide (((a.getD i 0).toNat:Int)<=57)))then .error (0,false)else .ok (IntKind.wrap .i64 ((IntKind.wrap .i64 (10 * s))+(IntKind.wrap .i64 (IntKind.wrap .u8 (((a.getD i 0).toNat:Int)-48))))))) :
  ∀ (k i n:Nat),i+k=a.length->(n+1) * 10 ^ k<=E18->ye b k i (n:Int)=if yle (a.drop i)then .ok ((digV n (a.drop i):Nat):Int)else .error (0,false)
 | 0,i,n,h,hn=>by
  rw[List.drop_eq_nil_of_le (by omega),yjf,if_pos (by intro b hb;simp at hb)];rfl
 | k+1,i,n,h,hn=>by
  have hlt:i<a.length:=by omega
  have hg:a.getD i 0=a[i]:=by simp[List.getD,List.getElem?_eq_getElem hlt]
  rw[List.drop_eq_getElem_cons hlt,ybc];simp only[ye,hb,hg];have h10:(n+1) * 10 ^ (k+1)=((n+1) * 10) * 10 ^ k:=by rw[Nat.pow_succ,Nat.mul_assoc,Nat.mul_comm 10]
  have hone:1<=10 ^ k:=Nat.one_le_pow _ _ (by decide);have hbig:(n+1) * 10 * 1<=(n+1) * 10 * 10 ^ k:=Nat.mul_le_mul_left _ hone;unfold E18 at hn;by_cases hd:48<=a[i].toNat/\a[i].toNat<=57
  ·have e:(!(decide (48<=((a[i]).toNat:Int)) && decide (((a[i]).toNat:Int)<=57)))=false:=by simp;omega
   rw[e,cond_false]
   have hw:IntKind.wrap .i64 ((IntKind.wrap .i64 (10 * (n:Int)))+(IntKind.wrap .i64 (IntKind.wrap .u8 (((a[i]).toNat:Int)-48))))=((10 * n+(a[i].toNat-48):Nat):Int):=by
    rw[wid (n:=10 * (n:Int)) (by omega) (by omega),IntKind.wrap_u8,Int.emod_eq_of_lt (by omega) (by omega),wid (n:=((a[i]).toNat:Int)-48) (by omega) (by omega),wid (by omega) (by omega)];omega
   rw[hw];simp only;have hm:(10 * n+(a[i].toNat-48)+1) * 10 ^ k<=(n+1) * 10 * 10 ^ k:=Nat.mul_le_mul_right _ (by omega);rw[ybo a b hb k (i+1) _ (by omega) (by unfold E18;omega)]
   have hiff:yle (a[i]::a.drop (i+1))↔yle (a.drop (i+1)):=⟨fun h b hb=>h b (List.mem_cons_of_mem _ hb),fun h b hb=>by
    rcases List.mem_cons.1 hb with rfl|hb
    ·exact hd
    ·exact h b hb⟩
   by_cases hA:yle (a.drop (i+1))
   ·rw[if_pos hA,if_pos (hiff.2 hA)]
   ·rw[if_neg hA,if_neg (fun h=>hA (hiff.1 h))]
  ·have e:(!(decide (48<=((a[i]).toNat:Int)) && decide (((a[i]).toNat:Int)<=57)))=true:=by
    simp;omega
   rw[e,cond_true];simp only;rw[if_neg (fun h=>hd (h a[i] List.mem_cons_self))]
def zyh (a0:Int) (a1:Int):(List UInt8):=Go.Lib.itoa a0
theorem yecb (a0:Int) (a1:Int) (hp0:a1=10) (hp1 : -9223372036854775808<=a0) (hp2:a0<=9223372036854775807):Den Tryz.prog 107 [.int .i64 a0,.int .i64 a1] (.str (zyh a0 a1)):=by
 subst hp0;refine Den.plain ⟨_,Tryz.func107,rfl,rfl⟩ (by simp[yvb,y3b]) ?_;intro w M vs hI hr;simp only[RepL]at hr;obtain⟨u0,us0,f0,g0,rfl,h0e,h0,u1,us1,f1,g1,rfl,h1e,h1,rfl,_⟩:=hr;have e0:=h0.val_int;have e1:=h1.val_int;subst e0 e1;refine(Any.strconv_FormatInt_10 Tryz.laysM173 a0 hp1 hp2 w hI.1.1).mono ?_;rintro e w' ⟨rfl,k,os,rfl⟩
 exact⟨_,rfl,yho w k os,fun M'=>y7b _ (ym7 hp1 hp2)⟩
def D_zyh : DF
 | [x0,x1]=>some (.str (zyh (rdI x0) (rdI x1)),false,[wI .i64 x0,wI .i64 x1,(rdI x1)=10,-9223372036854775808<=(rdI x0),(rdI x0)<=9223372036854775807])
 | _=>none
theorem yt9:OkD Tryz.prog 107 D_zyh:=by
 intro xs r z ob h ho;unfold D_zyh at h;split at h
 ·simp only[Option.some.injEq,Prod.mk.injEq]at h
  obtain⟨rfl,rfl,rfl⟩:=h;obtain⟨h0,h1,hp0,hp1,hp2,_⟩:=ho;exact Den.sim (yecb _ _ hp0 hp1 hp2) (yv (yke h0).1 <| yv (yke h1).1 <| trivial) (y7 (yke h0).2 <| y7 (yke h1).2 <| rfl) rfl
 ·cases h
end Go.Ab
namespace Go.Ab
open Go
theorem ypl (s:List Int) (a b:Int) (i:Nat) (hi:i<s.length+2):(bif i.blt s.length then[AV.int .i64 (s.getD i default)]else yz (elt [[AV.int .i64 a],[AV.int .i64 b]] (i-s.length)))=[AV.int .i64 ((s++[a,b]).getD i default)]:=by
 by_cases h:i<s.length
 ·have:i.blt s.length=true:=by rw[Nat.blt_eq];exact h
  rw[this];simp[List.getD_eq_getElem?_getD,List.getElem?_append_left h]
 ·have:i.blt s.length=false:=by rw[<- Bool.not_eq_true,Nat.blt_eq];exact h
  rw[this];rcases(show i=s.length\/i=s.length+1 by omega)with h1|h1
  ·subst h1
   simp[elt,yz,yeb,List.getD_eq_getElem?_getD]
  ·subst h1
   simp[elt,yz,yeb,List.getD_eq_getElem?_getD]
theorem ysi (s:List Int) (a:Int) (i:Nat) (hi:i<s.length+1):(bif i.blt s.length then[AV.int .i64 (s.getD i default)]else yz (elt [[AV.int .i64 a]] (i-s.length)))=[AV.int .i64 ((s++[a]).getD i default)]:=by
 by_cases h:i<s.length
 ·have:i.blt s.length=true:=by rw[Nat.blt_eq];exact h
  rw[this];simp[List.getD_eq_getElem?_getD,List.getElem?_append_left h]
 ·have:i.blt s.length=false:=by rw[<- Bool.not_eq_true,Nat.blt_eq];exact h
  rw[this];have h1:i=s.length:=by omega
  subst h1;simp[elt,yz,yeb,List.getD_eq_getElem?_getD]
theorem ylt (s:List Int) (a b:Int) (i:Nat) (hi:i<s.length+1+1):(bif i.blt (s.length+1)then bif i.blt s.length then[AV.int .i64 (s.getD i default)]else yz (elt [[AV.int .i64 a]] (i-s.length))else yz (elt [[AV.int .i64 b]] (i-(s.length+1))))=[AV.int .i64 ((s++[a]++[b]).getD i default)]:=by
 by_cases h:i<s.length+1
 ·have:i.blt (s.length+1)=true:=by rw[Nat.blt_eq];exact h
  rw[this,cond_true];refine(ysi s a i h).trans ?_;rw[List.getD_eq_getElem?_getD,List.getD_eq_getElem?_getD,List.getElem?_append_left (l₁:=s++[a]) (l₂:=[b]) (by simpa using h)]
 ·have:i.blt (s.length+1)=false:=by rw[<- Bool.not_eq_true,Nat.blt_eq];exact h
  rw[this];have h1:i=s.length+1:=by omega
  subst h1;simp[elt,yz,yeb,List.getD_eq_getElem?_getD]
theorem y5r (s:List Int) (a b:Int) (i:Nat) (hi:i<s.length+2):(i.blt s.length || y9d (yz (elt [[AV.int .i64 a],[AV.int .i64 b]] (i-s.length))))=true:=by
 by_cases h:i<s.length
 ·have:i.blt s.length=true:=by rw[Nat.blt_eq];exact h
  rw[this];rfl
 ·rcases(show i-s.length=0\/i-s.length=1 by omega)with h1|h1<;>rw[h1]<;>simp[elt,yz,yeb,y9d,y1d]
end Go.Ab
namespace Go.Ab
theorem y1w {f : Nat -> Int} {n : Nat} (hs : ∀ i, i + 1 < n -> f i < f (i + 1)) : ∀ (d i : Nat), i + d + 1 < n -> f i < f (i + d + 1)
 | 0,i,h=>hs i h
 | d+1,i,h=>by
  have h1:=y1w hs d i (by omega);have h2:=hs (i+d+1) (by omega);have:i+(d+1)+1=i+d+1+1:=by omega
  rw[this];omega
theorem y4e {f:Nat->Int} {n:Nat} (hs:∀ i,i+1<n->f i<f (i+1)) {i k:Nat} (h:i<k) (hk:k<n):f i<f k:=by
 have:=y1w hs (k-i-1) i (by omega);rwa [show i+(k-i-1)+1=k by omega]at this
theorem y7z {f arc:Nat->Int} {n:Nat} (hf:∀ i,i<n->0<=f i/\f i<=359) (hs:∀ i,i+1<n->f i<f (i+1)) :
  (∀ i,i<n->∀ k,k<n->k≠i->arc i<=(f k-f i) % 360)↔(1<n->∀ i,i<n->arc i<=(f ((i+1) % n)-f i+360) % 360):=by
 constructor
 ·intro h hn i hi
  have hne:(i+1) % n≠i:=by
   by_cases h2:i+1<n
   ·rw[Nat.mod_eq_of_lt h2];omega
   ·have:i+1=n:=by omega
    rw[this,Nat.mod_self];omega
  have:=h i hi ((i+1) % n) (Nat.mod_lt _ (by omega)) hne;omega
 ·intro h i hi k hk hki
  have hn:1<n:=by omega
  have h1:=h hn i hi;have fi:=hf i hi;have fk:=hf k hk;by_cases h2:i+1<n
  ·rw[Nat.mod_eq_of_lt h2]at h1
   have g:=hs i h2;have fn:=hf (i+1) h2;have e1:(f (i+1)-f i+360) % 360=f (i+1)-f i:=by omega
   rw[e1]at h1;by_cases h3:i<k
   ·have:f (i+1)<=f k:=by
     by_cases h4:k=i+1
     ·rw[h4];omega
     ·have:=y4e hs (i:=i+1) (k:=k) (by omega) hk;omega
    have:(f k-f i) % 360=f k-f i:=by omega
    omega
   ·have:=y4e hs (i:=k) (k:=i) (by omega) hi
    have:(f k-f i) % 360=f k-f i+360:=by omega
    omega
  ·have hin:i+1=n:=by omega
   rw[hin,Nat.mod_self]at h1;have f0:=hf 0 (by omega);have g:=y4e hs (i:=0) (k:=i) (by omega) hi;have e1:(f 0-f i+360) % 360=f 0-f i+360:=by omega
   rw[e1]at h1
   have:f 0<=f k:=by
    by_cases h4:k=0
    ·rw[h4];omega
    ·have:=y4e hs (i:=0) (k:=k) (by omega) hk;omega
   have:=y4e hs (i:=k) (k:=i) (by omega) hi;have:(f k-f i) % 360=f k-f i+360:=by omega
   omega
theorem y58 {f arc S : Nat -> Int} {n : Nat} (hf : ∀ i, i < n -> 0 <= f i /\ f i <= 359) (hs : ∀ i, i + 1 < n -> f i < f (i + 1)) (ha : ∀ i, i < n -> 1 <= arc i /\ arc i <= 360)
  (h:1<n->∀ i,i<n->arc i<=(f ((i+1) % n)-f i+360) % 360) (h0:S 0=0) (hS:∀ i,i<n->S (i+1)=S i+arc i):S n<=360:=by
 by_cases hn:1<n
 ·have key:∀ j,j<n->S j<=f j-f 0:=by
   intro j
   induction j with
   | zero=>intro _;rw[h0];omega
   | succ j ih=>
    intro hj;have i1:=ih (by omega);have i2:=h hn j (by omega);rw[Nat.mod_eq_of_lt hj]at i2;have g:=hs j hj;have fj:=hf j (by omega);have fj1:=hf (j+1) hj;have e1:(f (j+1)-f j+360) % 360=f (j+1)-f j:=by omega
    rw[hS j (by omega)];omega
  have k1:=key (n-1) (by omega);have i2:=h hn (n-1) (by omega);rw[show n-1+1=n by omega,Nat.mod_self]at i2;have f0:=hf 0 (by omega);have fn:=hf (n-1) (by omega);have g:=y4e hs (i:=0) (k:=n-1) (by omega) (by omega);have e1:(f 0-f (n-1)+360) % 360=f 0-f (n-1)+360:=by omega
  have:=hS (n-1) (by omega);rw[show n-1+1=n by omega]at this;omega
 ·by_cases h1:n=1
  ·subst h1
   have:=hS 0 (by omega);have a0:=ha 0 (by omega);simp only[Nat.zero_add]at this;omega
  ·have:n=0:=by omega
   subst this;omega
end Go.Ab
namespace Go.Ab
open Go Go.Proofs
def znc (a0:(List UInt8)) (a1:(List UInt8)):Bool:=decide (0<=Go.Lib.indexByte a0 (a1.getD 0 0))
theorem yacb (a0:(List UInt8)) (a1:(List UInt8)) (hp0:a1.length=1):Den Tryz.prog 169 [.str a0,.str a1] (.bool (znc a0 a1)):=by
 obtain⟨c,rfl⟩:∃ c,a1=[c]:=List.length_eq_one_iff.1 hp0;refine Den.plain ⟨_,Tryz.func169,rfl,rfl⟩ (by simp[yvb,y3b]) ?_;intro w M vs hI hr;simp only[RepL]at hr;obtain⟨u0,us0,f0,g0,rfl,h0e,h0,u1,us1,f1,g1,rfl,h1e,h1,rfl,_⟩:=hr;have e0:=h0.val_str;have e1:=h1.val_str;subst e0 e1;refine(Any.strings_Contains_one Tryz.lays144 ⟨a0.toArray⟩ c w).mono ?_;rintro e w' ⟨rfl,rfl⟩
 exact⟨_,rfl,Grow.refl _,fun M'=>y2c _⟩
def D_znc : DF
 | [x0,x1]=>some (.bool (znc (rdS x0) (rdS x1)),false,[wS x0,wS x1,(rdS x1).length=1])
 | _=>none
theorem ygx:OkD Tryz.prog 169 D_znc:=by
 intro xs r z ob h ho;unfold D_znc at h;split at h
 ·simp only[Option.some.injEq,Prod.mk.injEq]at h
  obtain⟨rfl,rfl,rfl⟩:=h;obtain⟨h0,h1,hp0,_⟩:=ho;exact Den.sim (yacb _ _ hp0) (yv (yob h0).1 <| yv (yob h1).1 <| trivial) (y7 (yob h0).2 <| y7 (yob h1).2 <| rfl) rfl
 ·cases h
theorem yzeb {s n:Int} (h0:0<=s) (h1:s<n) (hn:n<9223372036854775808):0<=(IntKind.wrap .i64 (s+1)).tmod n/\(IntKind.wrap .i64 (s+1)).tmod n<n:=by
 have e:IntKind.wrap .i64 (s+1)=s+1:=by rw[IntKind.wrap_i64];omega
 rw[e,Int.tmod_eq_emod_of_nonneg (by omega)];exact⟨Int.emod_nonneg _ (by omega),Int.emod_lt_of_pos _ (by omega)⟩
theorem y1x {i:Nat} (h:i<4):(([87,82,71,89]:List UInt8).take (IntKind.wrap .i64 ((i:Int)+1)).toNat |>.drop i).length=1:=by
 rw[show(IntKind.wrap .i64 ((i:Int)+1)).toNat=i+1 from by rw[IntKind.wrap_i64];omega];rcases i with _|_|_|_|i<;>first|rfl|omega
theorem yx6 (i:Nat):(([87,82,71,89]:List UInt8).take (IntKind.wrap .i64 ((i:Int)+1)).toNat |>.drop i).length<=1\/4<=i:=by
 by_cases h:i<4
 ·left;rw[y1x h];exact Nat.le_refl _
 ·right;omega
def y8s (a0:(List (List UInt8))) (a1:(List UInt8)) (i1:Nat) (s1:Unit):Except (Int) (Unit):=
 (bif (a1 == (a0.getD i1 default))then .error (i1:Int)else .ok ())
def zuf (a0:(List (List UInt8))) (a1:(List UInt8)):Int:=
 (match ye (y8s a0 a1) (a0.length-0) 0 ()with|.error e=>e|.ok s1=>(-1))
namespace N201
theorem DD:DOk Tryz.prog (Go.Ab.DD []):=yc _
theorem den (a0:(List (List UInt8))) (a1:(List UInt8))  : Den Tryz.prog 201 [encL 1 eS a0,.str a1] (.int .i64 (zuf a0 a1)):=by
 generalize hR:zuf a0 a1=r;unfold zuf at hR;refine di Tryz.func201 Tryz.ntmps201 Tryz.results201 ?_;intro c hL hc hk;obtain⟨hL0,hL1,_⟩:=hL;have hw0:=lwA hL0;have hw1:∀ v∈a0,bwS v:=fun v hv=>yez v ((yj hL0).2 v hv)
 have hw2:=lwS hL1;clear hL0 hL1;simp only[pars,Nat.zero_add];iterate 2 refine rS ?_
 refine AWP.block ?_;generalize hz1:ye (y8s a0 a1) (a0.length-0) 0 ()=z1 at hR;refine AWP.range (y8s a0 a1) (fun i1 s1=>⟨[(0,encL 1 eS a0),(1,.str a1),(7,.int .i64 (a0.length:Int)),(8,.int .i64 (i1:Int))],[]⟩) (fun i1 s1=>True) (a0.length) 0 () [] hz1 ot wt sm ?_;clear hz1;intro i1 s1 hi1 hW1 hz1;refine rS ?_;refine AWP.seq ?_;refine yb ?_ ?_<;>intro hb
 ·have hlt1:i1<a0.length:=ot
  rw[yi hlt1]at hz1;simp only[y8s]at hz1;iterate 2 refine rS ?_
  refine yb ?_ ?_<;>intro hb
  ·simp only[hb,cond_true]at hz1
   refine rS ?_;refine AWP.ret ?_;subst hz1;dsimp only at hR;subst hR;exact es
  ·simp only[hb,cond_false]at hz1
   refine rS ?_;exact⟨_,[],hlt1,wt,hz1,sm⟩
 ·obtain rfl:i1=a0.length:=ot
  exact retX
end N201
def D_zuf : DF
 | [x0,x1]=>some (.int .i64 (zuf (rdL dS x0) (rdS x1)),false,[wL 1 eS dS x0,wS x1])
 | _=>none
theorem yg7:OkD Tryz.prog 201 D_zuf:=by unfold D_zuf;exact dk N201.den
def zog (a0:(List (List UInt8))) (a1:(List UInt8)):Bool:=
 decide (0<=(zuf a0 a1))
namespace N150
theorem DD:DOk Tryz.prog (Go.Ab.DD [(201,dP D_zuf)]):=ya yg7.e <| yc _
abbrev dn:=@D_zuf.eq_1
theorem den (a0:(List (List UInt8))) (a1:(List UInt8))  : Den Tryz.prog 150 [encL 1 eS a0,.str a1] (.bool (zog a0 a1)):=by
 generalize hR:zog a0 a1=r;unfold zog at hR;refine di Tryz.func150 Tryz.ntmps150 Tryz.results150 ?_;intro c hL hc hk;obtain⟨hL0,hL1,_⟩:=hL;have hw0:=lwA hL0;have hw1:∀ v∈a0,bwS v:=fun v hv=>yez v ((yj hL0).2 v hv)
 have hw2:=lwS hL1;clear hL0 hL1;simp only[pars,Nat.zero_add];refine rS ?_;exact retR
end N150
def D_zog : DF
 | [x0,x1]=>some (.bool (zog (rdL dS x0) (rdS x1)),false,[wL 1 eS dS x0,wS x1])
 | _=>none
theorem ypy:OkD Tryz.prog 150 D_zog:=by unfold D_zog;exact dk N150.den
theorem yse : ∀ (l cur : List UInt8) (m : Nat), cur.length + l.length <= m -> (Go.Lib.fieldsGo cur l).length <= cur.length + l.length /\ ∀ x ∈ Go.Lib.fieldsGo cur l, x.length <= m
 | [],cur,m,h=>by
  cases cur with
  | nil=>simp[Go.Lib.fieldsGo]
  | cons a c=>
   simp only[Go.Lib.fieldsGo,List.isEmpty_cons,List.length_cons,List.length_nil];refine⟨by simp,fun x hx => ?_⟩;simp at hx
   subst hx;simpa using h
 | b::l,cur,m,h=>by
  simp only[List.length_cons]at h ⊢;simp only[Go.Lib.fieldsGo];split
  ·split
   ·have:=yse l [] m (by simp;omega)
    simp only[List.length_nil]at this;exact⟨by omega,this.2⟩
   ·rename_i hc
    have:=yse l [] m (by simp;omega);simp only[List.length_nil]at this;have hcl:0<cur.length:=by cases cur with|nil=>simp at hc|cons _ _=>simp
    refine⟨by simp only[List.length_cons];omega,fun x hx => ?_⟩;rcases List.mem_cons.1 hx with rfl|hx
    ·omega
    ·exact this.2 x hx
  ·have:=yse l (cur++[b]) m (by simp;omega)
   simp only[List.length_append,List.length_cons,List.length_nil]at this;exact⟨by omega,this.2⟩
theorem yiz (s:List UInt8):(Go.Lib.fields s).length<=s.length/\∀ x∈Go.Lib.fields s,x.length<=s.length:=by
 have:=yse s [] s.length (by simp);simpa [Go.Lib.fields]using this
theorem y4z {f : FuncId} {T : TypeId} (hok : FnOk Tryz.prog f) (a0 : List UInt8) (hp0 : a0.length <= 1048576) (hp1 : ∀ x ∈ a0, x.toNat < 128)
  (hS:∀ (s:ByteArray) (w:World),s.size<4294967281->(∀ (j:Nat) b,s.data.toList[j]? = some b->b.toNat<128)->Go.Lib.TabIs Tryz.prog w tn1 .u8 Go.Lib.asciiSpaceTab->Calls Tryz.prog f #[.string s] w fun e w'=>
   e=.returned (.slice (some ⟨w.heap.size,0,none⟩) (Go.Lib.fields s.data.toList).length (Go.Lib.fields s.data.toList).length)/\w'=w.alloc (.cells ((Go.Lib.fields s.data.toList).map fun l=>Value.string ⟨l.toArray⟩).toArray T)) :
  Den Tryz.prog f [.str a0] (ownL T 1 (fun s:List UInt8=>[.str s]) (Go.Lib.fields a0)):=by
 obtain⟨l1,l2⟩:=yiz a0
 have hnth:∀ i,i<(Go.Lib.fields a0).length->((Go.Lib.fields a0).getD i default).length<=maxLen:=by
  intro i hi
  have:(Go.Lib.fields a0).getD i default∈Go.Lib.fields a0:=by
   rw[List.getD_eq_getElem?_getD,List.getElem?_eq_getElem hi];simp
  have:=l2 _ this;unfold maxLen;omega
 refine Den.fresh (T:=T) (e:=1) (enc:=fun s:List UInt8=>[.str s]) (l:=Go.Lib.fields a0) hok (by simp[yvb,y3b]) (fun i=>[Value.string ⟨((Go.Lib.fields a0).getD i default).toArray⟩]) (fun w M i hi=>⟨?_,rfl,by simp[Value.oneCell']⟩) ?_
 ·simp only[RepL]
  exact⟨_,[],[],[],rfl,rfl,y7b _ (hnth i hi),rfl,rfl⟩
 ·intro w M vs hI hr
  simp only[RepL]at hr;obtain⟨u0,us0,f0,g0,rfl,h0e,h0,rfl,_⟩:=hr;have e0:=h0.val_str;subst e0;refine(hS ⟨a0.toArray⟩ w (by show a0.length<_;omega) (fun j b hb=>hp1 b (List.mem_of_getElem? hb)) hI.2.2.2).mono ?_;rintro e w' ⟨rfl,rfl⟩
  refine⟨w.heap.size,(Go.Lib.fields a0).length,((Go.Lib.fields a0).map fun x=>Value.string ⟨x.toArray⟩).toArray,rfl,?_⟩;have hfl:=y3m w T ((Go.Lib.fields a0).map fun x=>Value.string ⟨x.toArray⟩) (by rw[List.length_map];unfold maxLen;omega);rw[List.length_map]at hfl
  have hus:((List.range (Go.Lib.fields a0).length).flatMap fun i=>[((Go.Lib.fields a0).map fun x=>Value.string ⟨x.toArray⟩).getD i default])=(List.range (Go.Lib.fields a0).length).flatMap fun i=>[Value.string ⟨((Go.Lib.fields a0).getD i default).toArray⟩]:=by
   rw[List.flatMap_def,List.flatMap_def];congr 1
   apply List.map_congr_left;intro i hi;have hi:=List.mem_range.1 hi;simp[List.getD_eq_getElem?_getD,List.getElem?_map,List.getElem?_eq_getElem hi]
  rw[hus]at hfl;exact hfl
def zzh (a0:(List UInt8)):(List (List UInt8)):=Go.Lib.fields a0
theorem y5ab (a0:(List UInt8)) (hp0:a0.length<=1048576) (hp1:∀ x∈a0,x.toNat<128):Den Tryz.prog 202 [.str a0] (ownL 9 1 eS (zzh a0)):=by
 exact y4z ⟨_,Tryz.func202,rfl,rfl⟩ a0 hp0 hp1 (fun s w h1 h2 h3=>Any.strings_Fields Tryz.lays157 (by kernel_rfl) (by kernel_rfl) s w h1 h2 h3)
def D_zzh : DF
 | [x0]=>some (ownL 9 1 eS (zzh (rdS x0)),false,[wS x0,(rdS x0).length<=1048576,∀ x∈(rdS x0),x.toNat<128])
 | _=>none
theorem yv8:OkD Tryz.prog 202 D_zzh:=by
 intro xs r z ob h ho;unfold D_zzh at h;split at h
 ·simp only[Option.some.injEq,Prod.mk.injEq]at h
  obtain⟨rfl,rfl,rfl⟩:=h;obtain⟨h0,hp0,hp1,_⟩:=ho;exact Den.sim (y5ab _ hp0 hp1) (yv (yob h0).1 <| trivial) (y7 (yob h0).2 <| rfl) rfl
 ·cases h
theorem ned {α:Type} [DecidableEq α] (x y:α):(x != y) = !decide (x=y):=by by_cases h:x=y<;>simp[h]
end Go.Ab
namespace Go.Ab
open Go Go.Proofs Go.RowKit Go.Lib Go.Shelf
set_option maxHeartbeats 4000000 in
set_option maxRecDepth 100000 in
theorem ybbb:ydab Tryz.prog 101 56 16 208:=by
 intro w v y n i m A B news hin hm hA hB hN oA oB oN hv hy hne hby hbig;obtain⟨i0,z,ET⟩:=ElT.mk' (tS:=24) (tE:=56) G_ok rfl rfl rfl (by decide);obtain⟨u0,inf0,zero0,size0,byt0,zs0,pos0,zone0⟩:=ET;have u3:Tryz.prog.underlying 3=some (.int .i64):=by kernel_rfl
 rcases hy with⟨_,h⟩|⟨vb,vc,vcur,rfl,hvh,hvs,hvm,hvc,hvn⟩
 ·omega
 have hz1:¬ ((m:Int)=0):=by omega
 have hsrc:∀ (j:Nat) (u:Value),news[j]? = some u->w.cell? ((⟨vb,0,none⟩:Addr).add j)=some u:=by
  intro j u hu;have hj:j<m * 16:=by rw[<- hN];exact(List.getElem?_eq_some_iff.1 hu).1
  rw[Addr.add_lit,Nat.zero_add,cell_of_row w vb j vcur 56 (0,0) hvh,hvn j hj];exact hu
 by_cases hend:i=n
 ·subst hend
  have hB0:B=[]:=List.eq_nil_of_length_eq_zero (by simpa using hB);subst hB0
  obtain⟨v',w',hr,ho⟩:=y0o (P:=Tryz.prog) (w:=w) (ty:=24) (y:=.slice (some ⟨vb,0,none⟩) m vc) u0 inf0 zero0 size0 byt0 zs0 hA hN oN (by
   rcases hv with h|⟨b,c,cur,h1,h2,h3,h4,h5,h6⟩
   ·exact .inl h
   ·exact .inr ⟨b,c,cur,h1,h2,h3,h4,h5,fun j hj=>by rw[h6 j hj,List.append_nil]⟩) (.inr ⟨_,_,rfl,hsrc⟩) hby hbig
  rcases ho with⟨_,h,_⟩|⟨b',cap',cur',rfl,ho⟩
  ·omega
  have fin:AppOut w w' 56 16 (i+m) 0 v.ownBlock (A++news++[]) [] b' cap' cur':=by
   refine⟨ho.os,ho.tape,ho.output,ho.size,ho.other,ho.row,ho.len,by have:=ho.fit;omega,ho.big,?_,fun j hj=>by omega,ho.place⟩;intro j hj;rw[List.append_nil];by_cases h:j<i * 16
   ·rw[List.getElem?_append_left (by omega)];exact ho.olds j h
   ·have:=ho.adds (j-i * 16) (by omega)
    rw[List.getElem?_append_right (by omega),hA, <- this];congr 1;omega
  rw[List.append_nil]at fin
  have hsh:(v=.slice none 0 0/\i=0)\/∃ b c,v=.slice (some ⟨b,0,none⟩) i c/\i<=c/\c<=9223372036854775807:=by
   rcases hv with h|⟨b,c,cur,h1,h2,h3,h4,h5,h6⟩
   ·exact .inl h
   ·exact .inr ⟨b,c,h1,h4,h5⟩
  clear hne ho hv hvh hvs hvn hsrc hA hB hN oA oB oN;rcases hsh with⟨rfl,rfl⟩|⟨b,c,rfl,hic,hcm⟩
  ·go_enter Tryz.func101,Tryz.ntmps101
   go_wp2_with (at_builtin;refine yye _ rfl _ _ _ _ rfl _ _ rfl rfl hr ?_)
   go_ret
   rw[Nat.zero_add]at fin ⊢;first|exact⟨b',cap',cur',rfl,by first|exact fin|(rw[List.append_nil];exact fin)⟩|exact⟨b',cap',rfl,cur',by first|exact fin|(rw[List.append_nil];exact fin)⟩
  ·go_enter Tryz.func101,Tryz.ntmps101
   go_wp2_with (at_builtin;refine yye _ rfl _ _ _ _ rfl _ _ rfl rfl hr ?_)
   all_goals go_ret
   all_goals first|exact⟨b',cap',cur',rfl,by first|exact fin|(rw[List.append_nil];exact fin)⟩|exact⟨b',cap',rfl,cur',by first|exact fin|(rw[List.append_nil];exact fin)⟩
 ·have hlt:i<n:=by omega
  rcases hv with⟨_,h⟩|⟨b,c,cur,rfl,hb,hcs,hnc,hcm,hold⟩
  ·omega
  have hvb:vb≠b:=fun h=>hne b rfl (by rw[h];rfl)
  have mixed:Tryz.prog.follows .mixedOrders=true:=by kernel_rfl
  have hz2:¬ ((i:Int)=(n:Int)):=by omega
  have hcSX:c<=9223372036854775807:=hcm;have hw1:IntKind.i64.wrap ((i:Int)+(m:Int))=(i:Int)+(m:Int):=by rw[IntKind.wrap_i64];omega
  have hb1:(0:Int)<=(i:Int)+(m:Int):=by omega
  have hin:i<=n:=by omega
  have htn:((i:Int)+(m:Int)).toNat=i+m:=by omega
  have hb4:¬ (c=i):=by omega
  have hAn:A.length+B.length=n * 16:=by omega
  have hgA:∀ (j:Nat) (u:Value),A[j]? = some u->cur[j]? = some u:=by
   intro j u hu;have hj:j<A.length:=(List.getElem?_eq_some_iff.1 hu).1;rw[hold j (by omega),List.getElem?_append_left hj,hu]
  have hgB:∀ (j:Nat) (u:Value),B[j]? = some u->cur[i * 16+j]? = some u:=by
   intro j u hu;have hj:j<B.length:=(List.getElem?_eq_some_iff.1 hu).1;rw[hold _ (by omega),List.getElem?_append_right (by omega),hA,Nat.add_sub_cancel_left,hu]
  by_cases hroom:n+m<=c
  ·have hb2:¬ (c=i+m):=by omega
   have hb3:(i:Int)<=(n:Int)+(m:Int):=by omega
   have hmin:Nat.min (n+m-i) (n+m-(i+m))=n-i:=by simp only[Nat.min_def];split<;>omega
   have hmin2:Nat.min m (n+m-i)=m:=by simp only[Nat.min_def];split<;>omega
   obtain⟨cur1,hcur1⟩:∃ cur1,cur1=(putV ((i+m) * 16) B cur.toList).toArray:=⟨_,rfl⟩
   have hl1:cur1.size=cur.size:=by rw[hcur1];simp[ymb]
   have hov:∀ lb cb,(callFunc 154 #[.slice (some ⟨vb,0,none⟩) m vc,.slice (some ⟨b,(i+m) * 16,none⟩) lb cb]).run Tryz.prog w=.ok (.value (.bool false)) w:=fun lb cb=>by
    rw[run_callFunc_extern Tryz.func154 (by kernel_rfl) (by kernel_rfl) (by kernel_rfl) (e:=Extern.SlicesOverlaps.overlaps #[24,24] #[4]) (by kernel_rfl),
     yqp w 24 4 56 i0 u0 inf0 vb b 0 ((i+m) * 16) m vc lb cb hvb vcur cur 56 56 hvh hb (by omega)]
    rfl
   have hcp1:∀ ty dc sc,(Builtin.copy_ #[24,24] ty #[.slice (some ⟨b,(i+m) * 16,none⟩) (n+m-(i+m)) dc,.slice (some ⟨b,i * 16,none⟩) (n+m-i) sc]).run Tryz.prog w.drew=.ok (goInt ((n-i:Nat):Int)) (w.drew.setRow b cur1):=fun ty dc sc=>by
    rw[hcur1]
    exact yyi w.drew 24 24 ty 56 i0 b ((i + m) * 16) _ dc ⟨b, i * 16, none⟩ _ sc (n - i) cur 56 B u0 inf0 hb hmin (by rw [size0]; exact hB)
     (fun j u hj=>by rw[Addr.add_lit,cell_of_row w.drew b _ cur 56 (0,0) hb];exact hgB j u hj) (by omega) oB
   have hr1:∀ W:World,W.heap=(w.drew.setRow b cur1).heap->W.heap[b]? = some (.cells cur1 56 (0,0)):=fun W h=>by rw[h];exact setRow_heap w.drew b cur cur1 56 (0,0) hb
   have hcp2:∀ (W:World),W.heap=(w.drew.setRow b cur1).heap->∀ ty dc,(Builtin.copy_ #[24,24] ty #[.slice (some ⟨b,i * 16,none⟩) (n+m-i) dc,.slice (some ⟨vb,0,none⟩) m vc]).run Tryz.prog W=.ok (goInt m) (W.setRow b (putV (i * 16) news cur1.toList).toArray):=fun W hW ty dc=>
    yyi W 24 24 ty 56 i0 b (i * 16) _ dc ⟨vb, 0, none⟩ m vc m cur1 56 news u0 inf0 (hr1 W hW) hmin2 (by rw [size0]; exact hN)
     (fun j u hj=>by
      have hj2:j<m * 16:=by rw[<- hN];exact(List.getElem?_eq_some_iff.1 hj).1
      have hvh2:W.heap[vb]? = some (.cells vcur 56 (0,0)):=by rw[hW,setRow_other w.drew b vb cur1 hvb];exact hvh
      rw[Addr.add_lit,Nat.zero_add,cell_of_row W vb j vcur 56 (0,0) hvh2,hvn j hj2];exact hj) (by omega) oN
   have fin:∀ W:World,W.heap=(w.drew.setRow b cur1).heap->W.os=w.os->W.tape=w.tape->W.output=w.output ->
     AppOut w (W.setRow b (putV (i * 16) news cur1.toList).toArray) 56 16 (n+m) 0 (Value.ownBlock (.slice (some ⟨b,0,none⟩) n c)) (A++news++B) [] b c (putV (i * 16) news cur1.toList).toArray:=by
    intro W hW h1 h2 h3;refine⟨h1,h2,h3,?_,?_,setRow_heap W b cur1 _ 56 (0,0) (hr1 W hW),by simp[ymb,hl1,hcs],by omega,hcm,?_,fun j hj=>by omega,.inl rfl⟩
    ·simp[hW]
    ·intro k hk hkb
     rw[setRow_other W b k _ hkb,hW,setRow_other w.drew b k _ hkb];rfl
    ·intro j hj
     simp only[List.getElem?_toArray,ypb];have hcl:cur1.toList.length=c * 16:=by simp[hl1,hcs]
     by_cases h1:j<i * 16
     ·rw[if_neg (by omega),List.append_assoc,List.getElem?_append_left (by omega),hcur1]
      simp only[ypb];rw[if_neg (by omega)];have:A[j]? = some A[j]:=List.getElem?_eq_getElem (by omega);rw[this];simpa using hgA j _ this
     ·by_cases h2:j<(i+m) * 16
      ·rw[if_pos (by rw[hcl,hN];omega),List.append_assoc,List.getElem?_append_right (by omega),List.getElem?_append_left (by omega),hA]
      ·rw[if_neg (by omega),List.getElem?_append_right (by simp only[List.length_append];omega),hcur1]
       simp only[ypb];rw[if_pos (by simp only[Array.length_toList];omega)];congr 1;simp only[List.length_append];omega
   clear hold hgA hgB hcs hb hvh hvs hvn hsrc hA hB hN oA oB oN hne hby hAn hr1 zero0 byt0 zs0 zone0 size0 hcur1 hl1 hmin hmin2;go_enter Tryz.func101,Tryz.ntmps101
   go_wp2_with (simp only[hov])
   go_region_law_o (refine yqo rfl _ _ 24 24 rfl _ _ (by simp[Act.eval,Act.put]) (by simp[Act.eval,Act.put]) (hcp1 _ _ _) ?_)
   go_wp2_with (at_builtin;refine y7t _ rfl _ _ 24 24 rfl _ _ rfl rfl (hcp2 _ rfl _ _) ?_)
   go_ret
   exact⟨b,c,_,rfl,fin _ rfl rfl rfl rfl⟩
  ·have hz3:(c:Int)<(n:Int)+(m:Int):=by omega
   have hbw:b<w.heap.size:=(Array.getElem?_eq_some_iff.1 hb).1;have hvw:vb<w.heap.size:=(Array.getElem?_eq_some_iff.1 hvh).1;have hik:i+(n+m-i)=n+m:=by omega
   have hrz:∀ ty,(Builtin.append_ #[24,3] ty #[.slice (some ⟨b,0,none⟩) i c,.int .i64 ((n:Int)+(m:Int)-(i:Int))]).run Tryz.prog w=.ok (.slice (some ⟨w.heap.size,0,none⟩) (n+m) (grownCap w (n+m) c 56)) (w.drew.alloc (.cells (A.toArray++Builtin.zeroCells z.cells (n+m-i)++Builtin.zeroCells z.cells (grownCap w (n+m) c 56-(n+m))) 56)):=fun ty=>by
    have h := y0k (P := Tryz.prog) w 24 3 ty 56 i0 z u0 u3 inf0 zero0 ⟨b, 0, none⟩ i c A (by rw [size0]; exact hA)
     (fun j u hj=>by rw[Addr.add_lit,Nat.zero_add,cell_of_row w b _ cur 56 (0,0) hb];exact hgA j u hj) (n+m-i) (by omega) (by rw[size0];decide) (by omega) (by omega) (by rw[byt0,hik];exact hby)
    rw[hik,show((n+m-i:Nat):Int)=(n:Int)+(m:Int)-(i:Int)by omega]at h;exact h
   obtain⟨N,hN0⟩:∃ N,N=w.heap.size:=⟨_,rfl⟩
   obtain⟨G9,hG⟩:∃ G9,G9=grownCap w (n+m) c 56:=⟨_,rfl⟩
   have hGn:n+m<=G9:=by rw[hG];exact grownCap_ge w _ _ _
   have hGSX:G9<=9223372036854775807:=by
    have:=grownCap_le_maxLen w (n+m) c 56 (by unfold maxLen;omega);rw[<- hG]at this;unfold maxLen at this;omega
   obtain⟨row,hrow⟩:∃ row:Array Value,row=A.toArray++Builtin.zeroCells z.cells (n+m-i)++Builtin.zeroCells z.cells (G9-(n+m)):=⟨_,rfl⟩
   rw[<- hG, <- hrow, <- hN0]at hrz
   have hrl:row.size=G9 * 16:=by
    rw[hrow];simp only[Array.size_append,List.size_toArray,size_zeroCells,zs0,hA];omega
   have hGi:¬ (G9=i):=by omega
   have hGim:¬ (G9=i+m):=by omega
   have hbN:b≠N:=by omega
   have hvN:vb≠N:=by omega
   have hmin1:Nat.min m (n+m-i)=m:=by simp only[Nat.min_def];split<;>omega
   have hmin2:Nat.min (n-i) (n+m-(i+m))=n-i:=by simp only[Nat.min_def];split<;>omega
   have hW1:∀ W:World,W.heap=w.heap.push (.cells row 56)->W.heap[N]? = some (.cells row 56 (0,0))/\W.heap[b]? = some (.cells cur 56 (0,0))/\W.heap[vb]? = some (.cells vcur 56 (0,0)):=by
    intro W h;rw[h];refine⟨by rw[hN0];simp,?_,?_⟩
    ·rw[Array.getElem?_push,if_neg (by omega)];exact hb
    ·rw[Array.getElem?_push,if_neg (by omega)];exact hvh
   obtain⟨row2,hrow2⟩:∃ row2,row2=(putV (i * 16) news row.toList).toArray:=⟨_,rfl⟩
   have hl2:row2.size=G9 * 16:=by rw[hrow2];simp[ymb,hrl]
   have hcpA:∀ (W:World),W.heap=w.heap.push (.cells row 56)->∀ ty dc,(Builtin.copy_ #[24,24] ty #[.slice (some ⟨N,i * 16,none⟩) (n+m-i) dc,.slice (some ⟨vb,0,none⟩) m vc]).run Tryz.prog W=.ok (goInt m) (W.setRow N row2):=fun W hW ty dc=>by
    rw[hrow2]
    exact yyi W 24 24 ty 56 i0 N (i * 16) _ dc ⟨vb, 0, none⟩ m vc m row 56 news u0 inf0 (hW1 W hW).1 hmin1 (by rw [size0]; exact hN)
     (fun j u hj=>by
      have hj2:j<m * 16:=by rw[<- hN];exact(List.getElem?_eq_some_iff.1 hj).1
      rw[Addr.add_lit,Nat.zero_add,cell_of_row W vb j vcur 56 (0,0) (hW1 W hW).2.2,hvn j hj2];exact hj) (by omega) oN
   have hW2:∀ W W0:World,W0.heap=w.heap.push (.cells row 56)->W.heap=(W0.setRow N row2).heap->W.heap[N]? = some (.cells row2 56 (0,0))/\W.heap[b]? = some (.cells cur 56 (0,0)):=by
    intro W W0 h0 h;rw[h];exact⟨setRow_heap W0 N row row2 56 (0,0) (hW1 W0 h0).1,by rw[setRow_other W0 N b row2 hbN];exact(hW1 W0 h0).2.1⟩
   have hcpB:∀ (W W0:World),W0.heap=w.heap.push (.cells row 56)->W.heap=(W0.setRow N row2).heap->∀ ty dc sc,(Builtin.copy_ #[24,24] ty #[.slice (some ⟨N,(i+m) * 16,none⟩) (n+m-(i+m)) dc,.slice (some ⟨b,i * 16,none⟩) (n-i) sc]).run Tryz.prog W=.ok (goInt ((n-i:Nat):Int)) (W.setRow N (putV ((i+m) * 16) B row2.toList).toArray):=fun W W0 h0 hW ty dc sc=>
    yyi W 24 24 ty 56 i0 N ((i + m) * 16) _ dc ⟨b, i * 16, none⟩ _ sc (n - i) row2 56 B u0 inf0 (hW2 W W0 h0 hW).1 hmin2 (by rw [size0]; exact hB)
     (fun j u hj=>by rw[Addr.add_lit,cell_of_row W b _ cur 56 (0,0) (hW2 W W0 h0 hW).2];exact hgB j u hj) (by omega) oB
   have fin:∀ W W0:World,W0.heap=w.heap.push (.cells row 56)->W.heap=(W0.setRow N row2).heap->W.os=w.os->W.tape=w.tape->W.output=w.output ->
     AppOut w (W.setRow N (putV ((i+m) * 16) B row2.toList).toArray) 56 16 (n+m) 0 (Value.ownBlock (.slice (some ⟨b,0,none⟩) n c)) (A++news++B) [] N G9 (putV ((i+m) * 16) B row2.toList).toArray:=by
    intro W W0 h0 hW h1 h2 h3;refine⟨h1,h2,h3,?_,?_,setRow_heap W N row2 _ 56 (0,0) (hW2 W W0 h0 hW).1,by simp[ymb,hl2],by omega,hGSX,?_,fun j hj=>by omega,.inr hN0⟩
    ·simp[hW,h0]
    ·intro k hk hkb
     rw[setRow_other W N k _ hkb,hW,setRow_other W0 N k _ hkb,h0,Array.getElem?_push,if_neg (by omega)]
    ·intro j hj
     simp only[List.getElem?_toArray,ypb];have hcl:row2.toList.length=G9 * 16:=by simp[hl2]
     have hcl1:row.toList.length=G9 * 16:=by simp[hrl]
     by_cases h1:(i+m) * 16<=j
     ·rw[if_pos (by omega),List.getElem?_append_right (by simp only[List.length_append];omega)]
      congr 1;simp only[List.length_append];omega
     ·rw[if_neg (by omega),hrow2,List.getElem?_append_left (by simp only[List.length_append];omega)]
      simp only[ypb];by_cases h2:i * 16<=j
      ·rw[if_pos (by omega),List.getElem?_append_right (by omega),hA]
      ·rw[if_neg (by omega),List.getElem?_append_left (by omega),hrow]
       rw[Array.toList_append,Array.toList_append,List.append_assoc,List.getElem?_append_left (by simp;omega)]
   clear hold hgA hgB hcs hb hvh hvs hvn hsrc hA hB hN oA oB oN hne hby hAn zero0 byt0 zs0 zone0 size0 hW1 hW2 hrl hl2 hik hrow hrow2 hG hmin1 hmin2 hbw hvw;subst hN0;have hcpA1:=hcpA (w.alloc (.cells row 56)).drew rfl;have hcpB1:=hcpB ((w.alloc (.cells row 56)).drew.setRow w.heap.size row2).drew (w.alloc (.cells row 56)).drew rfl rfl;go_enter Tryz.func101,Tryz.ntmps101
   go_wp2_with (at_builtin;refine yye _ rfl _ _ _ _ rfl _ _ rfl rfl (hrz _) ?_)
   go_region_law_o (refine yqo rfl _ _ 24 24 rfl _ _ (by simp[Act.eval,Act.put]) (by simp[Act.eval,Act.put]) (hcpB1 _ _ _) ?_)
   go_wp2
   go_ret
   first|exact⟨_,_,_,rfl,fin _ (w.alloc (.cells row 56)).drew rfl rfl rfl rfl rfl⟩|exact⟨_,_,rfl,_,fin _ (w.alloc (.cells row 56)).drew rfl rfl rfl rfl rfl⟩
def zpg (a0:(List Aid)) (a1:Int) (a2:(List Aid)):List Aid:=a0.take a1.toNat++a2++a0.drop a1.toNat
theorem y8ab (a0:(List Aid)) (a1:Int) (a2:(List Aid)) (hp0:0<=a1) (hp1:a1<=a0.length) (hp2:0<a2.length) (hp3:a0.length<338311270084) (hp4:a2.length<338311270084):DenM Tryz.prog 101 [ownL 56 16 ytb a0,.int .i64 a1,ownL 56 16 ytb a2] (ownL 56 16 ytb (zpg a0 a1 a2)) [.any,.any,.any]:=
 y6bb ⟨_,Tryz.func101,rfl,rfl⟩ ybbb (fun v=>by simp[ytb,ownL,y4b,ygc,yy,yl]) a0 a2 a1 hp0 hp1 hp2 (by omega) (by omega)
def D_zpg : List AV -> Option (AV × List AV × List Prop)
 | [x0,x1,x2]=>some (ownL 56 16 ytb (zpg (rdL dAid x0) (rdI x1) (rdL dAid x2)),[.any,.any,.any],[wO 56 16 ytb dAid x0,wI .i64 x1,wO 56 16 ytb dAid x2,0<=(rdI x1),(rdI x1)<=(rdL dAid x0).length,0<(rdL dAid x2).length,(rdL dAid x0).length<338311270084,(rdL dAid x2).length<338311270084])
 | _=>none
theorem y94:OkM Tryz.prog 101 D_zpg:=by
 intro xs r outs ob h ho;unfold D_zpg at h;split at h
 ·simp only[Option.some.injEq,Prod.mk.injEq]at h
  obtain⟨rfl,rfl,rfl⟩:=h;obtain⟨h0,h1,h2,hp0,hp1,hp2,hp3,hp4,_⟩:=ho;exact DenM.sim (y8ab _ _ _ hp0 hp1 hp2 hp3 hp4) (yv (ysr h0) <| yv (yke h1).1 <| yv (ysr h2) <| trivial)
 ·cases h
end Go.Ab
namespace Go.Ab
open Go Go.Proofs
def y9e {ρ σ α : Type} (f : α -> σ -> Except ρ σ) : List α -> σ -> Except ρ σ
  | [],s=>.ok s
  | x :: l, s => match f x s with
    | .error e=>.error e
    | .ok t=>y9e f l t
theorem yjk {ρ σ α:Type} [Inhabited α] (l:List α) (b:Nat->σ->Except ρ σ) (f:α->σ->Except ρ σ) (hb:∀ i s,i<l.length->b i s=f (l.getD i default) s) :
  ∀ (r p:List α) (s:σ),l=p++r->ye b r.length p.length s=y9e f r s
 | [],p,s,_=>rfl
 | x::r,p,s,e=>by
  have hi:p.length<l.length:=by subst e;simp
  have hg:l.getD p.length default=x:=by subst e;simp
  simp only[List.length_cons,ye,y9e];rw[hb _ _ hi,hg]
  cases f x s with
  | error e=>rfl
  | ok t=>
   have:=yjk l b f hb r (p++[x]) t (by simp[e]);simpa using this
theorem ymf {ρ σ α:Type} [Inhabited α] (l:List α) (b:Nat->σ->Except ρ σ) (f:α->σ->Except ρ σ) (s:σ) (hb:∀ i s,i<l.length->b i s=f (l.getD i default) s) :
  ye b (l.length-0) 0 s=y9e f l s:=yjk l b f hb l [] s rfl
theorem yh3 {α:Type} [Inhabited α] (R:α->α->Prop) (ht:∀ a b c,R a b->R b c->R a c) (l:List α):l.Pairwise R↔∀ j,j+1<l.length->R (l.getD j default) (l.getD (j+1) default):=by
 rw[List.pairwise_iff_getElem];constructor
 ·intro h j hj
  have:=h j (j+1) (by omega) hj (by omega);rw[List.getD_eq_getElem?_getD,List.getD_eq_getElem?_getD,List.getElem?_eq_getElem hj,List.getElem?_eq_getElem (show j<l.length by omega)];exact this
 ·intro h i j hi hj hij
  have h':∀ j (hj:j+1<l.length),R (l[j]'(by omega)) (l[j+1]'hj):=by
   intro j hj;have:=h j hj;rw[List.getD_eq_getElem?_getD,List.getD_eq_getElem?_getD,List.getElem?_eq_getElem hj,List.getElem?_eq_getElem (show j<l.length by omega)]at this;exact this
  obtain⟨d,rfl⟩:∃ d,j=i+1+d:=⟨j-(i+1),by omega⟩
  clear hij
  induction d with
  | zero=>exact h' i hj
  | succ d ih=>exact ht _ _ _ (ih (by omega) h') (h' (i+1+d) hj)
theorem ylv {b:Nat->Unit->Except Bool Unit} (p:Nat->Bool) (n:Nat) (r:Bool) (hb:∀ j u,j<n->b j u=bif p j then .error false else .ok ()) :
  (match ye b (n-0) 0 ()with|.error e=>e|.ok _=>r)=true↔(∀ j,j<n->p j=false)/\r=true:=by
 rw[yee p false (fun j u _ hj=>hb j u (by omega))];simp only[Nat.sub_zero,Nat.zero_add]
 cases h:(List.range n).any fun j=>p j with
 | true=>
  simp only[cond_true];constructor
  ·intro h;cases h
  ·rintro⟨h1,_⟩
   obtain⟨j,hj,hp⟩:=List.any_eq_true.1 h;rw[h1 j (by simpa using hj)]at hp;cases hp
 | false=>
  simp only[cond_false];constructor
  ·intro hr
   refine⟨fun j hj => ?_,hr⟩
   cases hp:p j with
   | false=>rfl
   | true=>exact absurd (List.any_eq_true.2 ⟨j,List.mem_range.2 hj,hp⟩) (by rw[h];simp)
  ·exact fun h=>h.2
end Go.Ab
namespace Go.Ab
open Go Go.Proofs Go.RowKit Go.Lib Go.Shelf
set_option maxHeartbeats 4000000 in
set_option maxRecDepth 100000 in
theorem ysbb:y69 Tryz.prog 102 56 16:=by
 intro w b cap n i j cur A C B hij hjn hA hC hB oB hb hcs hnc hcm hold;obtain⟨i0,z,ET⟩:=ElT.mk' (tS:=24) (tE:=56) G_ok rfl rfl rfl (by decide);obtain⟨u0,inf0,zero0,size0,byt0,zs0,pos0,zone0⟩:=ET;have mixed:Tryz.prog.follows .mixedOrders=true:=by kernel_rfl
 have hz2:¬ ((i:Int)=(j:Int)):=by omega
 have hcSX:cap<=9223372036854775807:=hcm;have hic:i<=cap:=by omega
 have hjc:j<=cap:=by omega
 have hin:i<=n:=by omega
 have hnn:i+(n-j)=n-(j-i):=by omega
 have hgA:∀ (k:Nat) (u:Value),A[k]? = some u->cur[k]? = some u:=by
  intro k u hu;have hj:k<A.length:=(List.getElem?_eq_some_iff.1 hu).1;rw[hold k (by omega),List.append_assoc,List.getElem?_append_left hj,hu]
 have hgB:∀ (k:Nat) (u:Value),B[k]? = some u->cur[j * 16+k]? = some u:=by
  intro k u hu;have hj:k<B.length:=(List.getElem?_eq_some_iff.1 hu).1;rw[hold _ (by omega),List.getElem?_append_right (by simp only[List.length_append];omega),show j * 16+k-(A++C).length=k by simp only[List.length_append];omega,hu]
 obtain⟨src,hsrc⟩:∃ src:Addr,(if cap=j then(⟨b,0,none⟩:Addr)else⟨b,j * 16,none⟩)=src:=⟨_,rfl⟩
 have hsc:∀ (k:Nat) (u:Value),B[k]? = some u->w.drew.cell? (src.add k)=some u:=by
  intro k u hu;have hj:k<B.length:=(List.getElem?_eq_some_iff.1 hu).1;rw[<- hsrc,if_neg (by omega),Addr.add_lit,cell_of_row w.drew b _ cur 56 (0,0) hb];exact hgB k u hu
 obtain⟨cur1,hcur1⟩:∃ cur1,cur1=(putV (i * 16) B cur.toList).toArray:=⟨_,rfl⟩
 have hl1:cur1.size=cap * 16:=by rw[hcur1];simp[ymb,hcs]
 have hap:∀ ty,(Builtin.append_ #[24,24] ty #[.slice (some ⟨b,0,none⟩) i cap,.slice (some src) (n-j) (cap-j)]).run Tryz.prog w.drew=.ok (.slice (some ⟨b,0,none⟩) (n-(j-i)) cap) (w.drew.setRow b cur1):=fun ty=>by
  have h:=run_append_room (P:=Tryz.prog) w.drew 24 ty 56 i0 u0 inf0 b i cap cur hb src (n-j) (cap-j) B (by rw[size0];exact hB) hsc oB (by omega) (by rw[size0];omega);rw[size0,ype (i * 16) B cur.toList (by simp;omega), <- hcur1,hnn]at h;exact h
 have hr1:(w.drew.setRow b cur1).heap[b]? = some (.cells cur1 56 (0,0)):=setRow_heap w.drew b cur cur1 56 (0,0) hb;obtain⟨cur2,hcur2⟩:∃ cur2,cur2=(putV ((n-(j-i)) * 16) ((List.range (j-i)).flatMap fun _=>z.cells.toList) cur1.toList).toArray:=⟨_,rfl⟩
 have hcl:∀ ty c,(Builtin.clear_ #[24] ty #[.slice (some ⟨b,(n-(j-i)) * 16,none⟩) (n-(n-(j-i))) c]).run Tryz.prog (w.drew.setRow b cur1)=.ok (.tuple #[]) ((w.drew.setRow b cur1).setRow b cur2):=fun ty c=>by
  rw[show n-(n-(j-i))=j-i by omega,hcur2];exact yn0 _ 24 ty 56 i0 z u0 inf0 zero0 (by rw[size0];exact zs0) zone0 b _ (j-i) c 56 cur1 hr1 (by rw[size0,hl1];omega) (by omega)
 have hvl:=yxf (vs:=fun _=>z.cells.toList) (e:=16) (j-i) (fun _ _=>by simpa using zs0)
 have fin:AppOut w ((w.drew.setRow b cur1).setRow b cur2) 56 16 (n-(j-i)) 0 (some b) (A++B) [] b cap cur2:=by
  refine⟨rfl,rfl,rfl,by simp,?_,setRow_heap _ b cur1 _ 56 (0,0) hr1,by rw[hcur2];simp[ymb,hl1],by omega,hcm,?_,fun j hj=>by omega,.inl rfl⟩
  ·intro k hk hkb
   rw[setRow_other _ b k _ hkb,setRow_other w.drew b k _ hkb];rfl
  ·intro k hk
   rw[hcur2];simp only[List.getElem?_toArray,ypb];rw[if_neg (by omega),hcur1];simp only[ypb];by_cases h1:k<i * 16
   ·rw[if_neg (by omega),List.getElem?_append_left (by omega)]
    have:A[k]? = some A[k]:=List.getElem?_eq_getElem (by omega);rw[this];simpa using hgA k _ this
   ·rw[if_pos (by simp only[Array.length_toList];omega),List.getElem?_append_right (by omega),hA]
 have hile:i<=j:=by omega
 have hne1:¬ (cap=n-(j-i)):=by omega
 have hle1:n-(j-i)<=n:=by omega
 by_cases hcj:cap=j
 all_goals
  first|rw[if_pos hcj]at hsrc|rw[if_neg hcj]at hsrc
  subst hsrc;try subst hcj
  clear hold hgA hgB hcs hb hA hC hB oB zero0 byt0 zs0 zone0 size0 hr1 hcur1 hcur2 hl1 hvl hsc hnn;go_enter Tryz.func102,Tryz.ntmps102
  go_wp2
  go_region_law_o (refine y0t rfl _ _ 24 24 rfl _ _ (by simp[Act.eval,Act.put]<;>omega) (by simp[Act.eval,Act.put]<;>omega) (hap _) ?_)
  go_wp2
  go_ret
  first|exact⟨_,rfl,fin⟩|exact⟨rfl,_,fin⟩
def zqg (a0:(List Aid)) (a1:Int) (a2:Int):List Aid:=a0.take a1.toNat++a0.drop a2.toNat
theorem y2cb (a0:(List Aid)) (a1:Int) (a2:Int) (hp0:0<=a1) (hp1:a1<a2) (hp2:a2<=a0.length):DenM Tryz.prog 102 [ownL 56 16 ytb a0,.int .i64 a1,.int .i64 a2] (ownL 56 16 ytb (zqg a0 a1 a2)) [.any,.any,.any]:=
 ysab ⟨_,Tryz.func102,rfl,rfl⟩ ysbb (fun v=>by simp[ytb,ownL,y4b,ygc,yy,yl]) a0 a1 a2 hp0 hp1 hp2
def D_zqg : List AV -> Option (AV × List AV × List Prop)
 | [x0,x1,x2]=>some (ownL 56 16 ytb (zqg (rdL dAid x0) (rdI x1) (rdI x2)),[.any,.any,.any],[wO 56 16 ytb dAid x0,wI .i64 x1,wI .i64 x2,0<=(rdI x1),(rdI x1)<(rdI x2),(rdI x2)<=(rdL dAid x0).length])
 | _=>none
theorem y47:OkM Tryz.prog 102 D_zqg:=by
 intro xs r outs ob h ho;unfold D_zqg at h;split at h
 ·simp only[Option.some.injEq,Prod.mk.injEq]at h
  obtain⟨rfl,rfl,rfl⟩:=h;obtain⟨h0,h1,h2,hp0,hp1,hp2,_⟩:=ho;exact DenM.sim (y2cb _ _ _ hp0 hp1 hp2) (yv (ysr h0) <| yv (yke h1).1 <| yv (yke h2).1 <| trivial)
 ·cases h
end Go.Ab
namespace Go.Ab
open Go Go.Proofs
theorem yik {α:Type} [Inhabited α] {l:List α} {x:α} {j:Nat} (h:j<l.length):(l++[x]).getD j default=l.getD j default:=by
 rw[List.getD_eq_getElem?_getD,List.getD_eq_getElem?_getD,List.getElem?_append_left h]
theorem ypk {α:Type} [Inhabited α] {l:List α} {x:α} {j:Nat} (h:¬ j<l.length) (h2:j<l.length+1):(l++[x]).getD j default=x:=by
 have:j=l.length:=by omega
 subst this;simp
theorem yst {j n:Nat} (h:j<n):Nat.blt j n=true:=by
 cases hb:Nat.blt j n with
 | true=>rfl
 | false=>rw[<- Bool.not_eq_true,Nat.blt_eq]at hb;exact absurd h hb
theorem ygu {j n:Nat} (h:¬ j<n):Nat.blt j n=false:=by
 cases hb:Nat.blt j n with
 | true=>rw[Nat.blt_eq]at hb;exact absurd hb h
 | false=>rfl
theorem yt1 {α:Type} [Inhabited α] (l:List α) (i:Nat) (b:α) (h:i<l.length):(l.set i b).getD i default=b:=by
 rw[List.getD_eq_getElem?_getD,List.getElem?_set_self h];rfl
theorem yv3 {α:Type} [Inhabited α] (l:List α) (k i:Nat) (b:α) (h:i≠k):(l.set k b).getD i default=l.getD i default:=by
 rw[List.getD_eq_getElem?_getD,List.getElem?_set_ne (by omega), <- List.getD_eq_getElem?_getD]
open Go.RowKit in
theorem yw7 {f : FuncId} (hok : FnOk Tryz.prog f) (a0 : List (List UInt8)) (a1 : List UInt8) (hp0 : a0.length <= 1048576) (hp1 : (Go.Lib.join a0 a1).length <= 1099511627776)
  (hS:∀ (bk o c:Nat) (xs:List ByteArray) (sep:ByteArray) (w:World),(∀ (j:Nat) x,xs[j]? = some x->w.cell? ⟨bk,o+j,none⟩=some (.string x))->bk<w.heap.size->xs.length<=140737488355328->xs.length<=c ->
   (Go.Lib.join (xs.map (·.data.toList)) sep.data.toList).length<=140737488355328 ->
   Calls Tryz.prog f #[.slice (some ⟨bk,o,none⟩) xs.length c,.string sep] w fun e w'=>e=.returned (.string ⟨(Go.Lib.join (xs.map (·.data.toList)) sep.data.toList).toArray⟩)/\Below w.heap.size w w')
  (hN:∀ (a:Option Addr) (c:Nat) (sep:ByteArray) (w:World),Calls Tryz.prog f #[.slice a 0 c,.string sep] w fun e w'=>e=.returned (.string ⟨#[]⟩)/\w'=w) :
  Den Tryz.prog f [encL 1 (fun s:List UInt8=>[.str s]) a0,.str a1] (.str (Go.Lib.join a0 a1)):=by
 refine Den.plain hok (by simp[yvb,y3b,encL]) ?_;intro w M vs hI hr;simp only[RepL]at hr;obtain⟨u0,us0,f0,g0,rfl,h0e,h0,u1,us1,f1,g1,rfl,h1e,h1,rfl,_⟩:=hr;have e1:=h1.val_str;subst e1;simp only[encL,Rep]at h0;rcases h0 with⟨hn,hev,_⟩|⟨b,o,cap,us,fps,rfl,⟨hc1,hc2⟩,hb,hcl,_⟩
 ·have h9:a0=[]:=List.length_eq_zero_iff.1 hn
  subst h9;rcases hev with rfl|⟨a,c,rfl⟩
  ·refine(hN none 0 ⟨a1.toArray⟩ w).mono ?_
   rintro e w' ⟨rfl,rfl⟩
   exact⟨_,rfl,Grow.refl _,fun M'=>y7b [] (by unfold maxLen;simp)⟩
  ·refine(hN (some a) c ⟨a1.toArray⟩ w).mono ?_
   rintro e w' ⟨rfl,rfl⟩
   exact⟨_,rfl,Grow.refl _,fun M'=>y7b [] (by unfold maxLen;simp)⟩
 ·have hx:((a0.map fun x=>(⟨x.toArray⟩:ByteArray)).map fun x=>x.data.toList)=a0:=by
   rw[List.map_map];exact List.map_id'' (fun x=>rfl) _
  have hcall:=hS b o cap (a0.map fun x=>(⟨x.toArray⟩:ByteArray)) ⟨a1.toArray⟩ w (fun j x hj=>by
   rw[List.getElem?_map]at hj
   cases hg:a0[j]? with
   | none=>rw[hg]at hj;simp at hj
   | some y=>
    rw[hg]at hj;simp only[Option.map_some,Option.some.injEq]at hj;subst hj;have hjl:=(List.getElem?_eq_some_iff.1 hg).1;obtain⟨c1,c2,c3⟩:=hcl j hjl;simp only[RepL]at c1;obtain⟨v,vs',q1,q2,hus,_,hv,hvs,_⟩:=c1;subst hvs;have hv:=hv.val_str;subst hv;rw[hus]at c3;have hgd:a0.getD j default=y:=by rw[List.getD_eq_getElem?_getD,hg];rfl
    rw[hgd]at c3;have h0:=(c3 0 _ rfl).1;rw[Nat.mul_one,Nat.add_zero]at h0
    exact h0) hb (by rw[List.length_map];omega) (by rw[List.length_map];exact hc1) (by rw[hx];exact Nat.le_trans hp1 (by omega))
  rw[List.length_map,hx]at hcall;refine hcall.mono ?_;rintro e w' ⟨rfl,hbl⟩
  exact⟨_,rfl,y6g hbl,fun M'=>y7b _ (by unfold maxLen;omega)⟩
def zsb (a0:(List (List UInt8))) (a1:(List UInt8)):(List UInt8):=Go.Lib.join a0 a1
theorem yscb (a0:(List (List UInt8))) (a1:(List UInt8)) (hp0:a0.length<=1048576) (hp1:(Go.Lib.join a0 a1).length<=1099511627776):Den Tryz.prog 58 [encL 1 eS a0,.str a1] (.str (zsb a0 a1)):=by
 exact yw7 ⟨_,Tryz.func58,rfl,rfl⟩ a0 a1 hp0 hp1 (fun bk o c xs sep w h1 h2 h3 h4 h5=>Any.strings_Join Tryz.lays156 Tryz.Builder_Extra_156 bk o c xs sep w h1 h2 h3 h4 h5) (fun a c sep w=>Any.strings_Join_none Tryz.lays156 Tryz.Builder_Extra_156 a c sep w)
def D_zsb : DF
 | [x0,x1]=>some (.str (zsb (rdL dS x0) (rdS x1)),false,[wL 1 eS dS x0,wS x1,(rdL dS x0).length<=1048576,(Go.Lib.join (rdL dS x0) (rdS x1)).length<=1099511627776])
 | _=>none
theorem y6i:OkD Tryz.prog 58 D_zsb:=by
 intro xs r z ob h ho;unfold D_zsb at h;split at h
 ·simp only[Option.some.injEq,Prod.mk.injEq]at h
  obtain⟨rfl,rfl,rfl⟩:=h;obtain⟨h0,h1,hp0,hp1,_⟩:=ho;exact Den.sim (yscb _ _ hp0 hp1) (yv (ygs h0).1 <| yv (yob h1).1 <| trivial) (y7 (ygs h0).2 <| y7 (yob h1).2 <| rfl) rfl
 ·cases h
end Go.Ab
namespace Go.Ab
open Go
theorem yqg {ρ σ : Type} {b : σ -> Except ρ σ} (I : σ -> Prop) (Q : ρ -> Prop) (m : σ -> Nat) (h : ∀ s, I s -> (∃ t, b s = .ok t /\ I t /\ m t < m s) \/ ∃ e, b s = .error e /\ Q e) : ∀ (k : Nat) (s : σ), I s -> m s < k -> ∃ e, yab b k s = .error e /\ Q e
 | 0,s,_,hk=>by omega
 | k+1,s,hI,hk=>by
  rcases h s hI with⟨t,h1,h2,h3⟩|⟨e,h1,h2⟩
  ·obtain⟨e,h4,h5⟩:=yqg I Q m h k t h2 (by omega)
   exact⟨e,by simp only[yab,h1];exact h4,h5⟩
  ·exact⟨e,by simp only[yab,h1],h2⟩
end Go.Ab
namespace Go.Ab
open Go Go.Proofs
theorem ytm (x:Int):(0<=x/\x.tdiv 10=x / 10)\/(x<0/\x.tdiv 10 = -((-x) / 10)):=by
 by_cases h:0<=x
 ·exact .inl ⟨h,Int.tdiv_eq_ediv_of_nonneg h⟩
 ·refine .inr ⟨by omega,?_⟩
  have h2:=Int.neg_tdiv (a:=x) (b:=10);rw[Int.tdiv_eq_ediv_of_nonneg (show 0 <= -x by omega)]at h2;omega
end Go.Ab
namespace Go.Ab
open Go
theorem ygh : ∀ (l : List UInt8) (c : UInt8), c ∉ l -> Lib.index l [c] = -1
 | [],c,_=>rfl
 | b::l,c,h=>by
  have h1:¬ c=b:=fun e=>h (by simp[e])
  have h2:=ygh l c (fun e=>h (by simp[e]));have h3:(c == b)=false:=by simpa using h1
  simp[Lib.index,h2,List.isPrefixOf,h3]
theorem yci : ∀ (l t : List UInt8) (c : UInt8), c ∉ l -> Lib.index (l ++ c :: t) [c] = l.length
 | [],t,c,_=>by simp[Lib.index,List.isPrefixOf]
 | b::l,t,c,h=>by
  have h1:¬ c=b:=fun e=>h (by simp[e])
  have h2:=yci l t c (fun e=>h (by simp[e]));have h3:(c == b)=false:=by simpa using h1
  have h4:((l.length:Int) == -1)=false:=by rw[beq_eq_false_iff_ne];omega
  simp only[List.cons_append,Lib.index,h2,List.isPrefixOf,h3,h4,Bool.false_and,List.length_cons];simp
theorem y7f (l t:List UInt8) (c:UInt8) (h:c∉l):Lib.cut (l++c::t) [c]=(l,t,true):=by
 unfold Lib.cut;rw[yci l t c h,if_pos (by omega)];simp only[Int.toNat_natCast,List.length_singleton];rw[List.take_left' rfl, <- List.drop_drop,List.drop_left' rfl];rfl
theorem yvq (l:List UInt8) (c:UInt8) (h:c∉l):Lib.cut l [c]=(l,[],false):=by
 unfold Lib.cut;rw[ygh l c h,if_neg (by omega)]
theorem yad (l p:List UInt8):Lib.hasSuffix (l++p) p=true:=by
 unfold Lib.hasSuffix;rw[List.isSuffixOf_iff_suffix];exact List.suffix_append l p
theorem yzc (l p:List UInt8):Lib.trimSuffix (l++p) p=l:=by
 unfold Lib.trimSuffix;rw[yad];simp
theorem yyn (l p:List UInt8) (a b:UInt8) (h:a≠b):Lib.hasSuffix (l++[a]) (p++[b])=false:=by
 cases hs:Lib.hasSuffix (l++[a]) (p++[b])with
 | false=>rfl
 | true=>
  unfold Lib.hasSuffix at hs;rw[List.isSuffixOf_iff_suffix]at hs;obtain⟨t,ht⟩:=hs;have:=congrArg List.getLast? ht;rw[<- List.append_assoc]at this;simp at this
  exact absurd this.symm h
theorem yvf (l p:List UInt8) (h:Lib.hasSuffix l p=false):Lib.trimSuffix l p=l:=by
 unfold Lib.trimSuffix;rw[h];simp
end Go.Ab
namespace Go.Ab
open Go Go.Lib
def yq (c : UInt8) : List UInt8 -> List (List UInt8)
  | []=>[[]]
  | b :: l => if b = c then [] :: yq c l else match yq c l with
    | []=>[[b]]
    | x::r=>(b::x)::r
theorem y1t (c : UInt8) : ∀ l, yq c l ≠ []
 | []=>by simp[yq]
 | b::l=>by
  simp only[yq];split
  ·simp
  ·split<;>simp
theorem yld (c : UInt8) : ∀ l : List UInt8, c ∉ l -> yq c l = [l]
 | [],_=>rfl
 | b::l,h=>by
  simp only[List.mem_cons,not_or]at h;rw[yq,if_neg (fun e=>h.1 e.symm),yld c l h.2]
theorem y9 (c : UInt8) : ∀ (a l : List UInt8), c ∉ a -> yq c (a ++ c :: l) = a :: yq c l
 | [],l,_=>by simp[yq]
 | b::a,l,h=>by
  simp only[List.mem_cons,not_or]at h;rw[List.cons_append,yq,if_neg (fun e=>h.1 e.symm),y9 c a l h.2]
theorem y78 (c:UInt8):∀ (n:Nat) (s:List UInt8),s.length<=n->splitK [c] 0 (count s [c]) s=yq c s:=by
 intro n
 induction n with
 | zero=>
  intro s h;have:s=[]:=List.length_eq_zero_iff.1 (by omega);subst this;have hi:index [] [c] = -1:=by rw[index_one];rfl
  rw[count_miss hi];rfl
 | succ n ih=>
  intro s h;have h1:=index_one s c;by_cases hm:indexByte s c = -1
  ·rw[count_miss (by rw[h1];exact hm)]
   have hn:=indexByte_none hm
   rw[yld c s (fun hc=>by
    obtain⟨k,hk⟩:=List.getElem?_of_mem hc
    exact hn k hk)]
   rfl
  ·have hge:=indexByte_ge s c
   obtain⟨o,ho⟩:∃ o:Nat,indexByte s c=o:=⟨(indexByte s c).toNat,by omega⟩
   obtain⟨e1,e2⟩:=indexByte_some ho;have hio:index s [c]=(o:Int):=h1.trans ho;rw[count_hit (by simp) hio,Nat.add_comm,splitK,if_neg (by rw[hio];simp),hio];have hlt:o<s.length:=(List.getElem?_eq_some_iff.1 e1).1
   have hs:s=s.take o++c::s.drop (o+1):=by
    conv=>lhs;rw[<- List.take_append_drop o s]
    rw[List.drop_eq_getElem_cons hlt];congr 2
    exact(List.getElem?_eq_some_iff.1 e1).2
   have hnot:c∉s.take o:=fun hc=>by
    obtain⟨k,hk⟩:=List.getElem?_of_mem hc
    have hko:k<o:=by
     have:=(List.getElem?_eq_some_iff.1 hk).1;simp at this;omega
    rw[List.getElem?_take_of_lt hko]at hk;exact e2 k hko hk
   have hd:s.drop ((o:Int).toNat+[c].length)=s.drop (o+1):=by simp
   rw[hd,show o+[c].length=o+1 from rfl,ih (s.drop (o+1)) (by simp;omega)];conv=>rhs;rw[hs]
   rw[y9 c _ _ hnot];simp
theorem y6c (c : UInt8) : ∀ (l : List UInt8), (yq c l).length <= l.length + 1 /\ ∀ x ∈ yq c l, x.length <= l.length
 | []=>by simp[yq]
 | b::l=>by
  obtain⟨h1,h2⟩:=y6c c l;simp only[yq];split
  ·simp only[List.length_cons,List.mem_cons]
   refine⟨by omega,fun x hx => ?_⟩;rcases hx with rfl|hx
   ·simp
   ·have:=h2 x hx;omega
  ·split
   ·simp
   ·rename_i x r he
    rw[he]at h1 h2;simp only[List.length_cons,List.mem_cons]at h1 ⊢;refine⟨by omega,fun y hy => ?_⟩;rcases hy with rfl|hy
    ·have:=h2 x (by simp);simp only[List.length_cons];omega
    ·have:=h2 y (by simp[hy]);omega
end Go.Ab
namespace Go.Ab
open Go
def yib (y:Int):Bool:=(((y.tmod 4 == 0) && (y.tmod 100 != 0)) || (y.tmod 400 == 0))
theorem yrc {n:Int} (h1 : -9223372036854775808<=n) (h2:n<=9223372036854775807):IntKind.wrap .i64 n=n:=by
 rw[IntKind.wrap_i64];omega
theorem yqf {m:Int} (h1:1<=m) (h2:m<=12):m=1\/m=2\/m=3\/m=4\/m=5\/m=6\/m=7\/m=8\/m=9\/m=10\/m=11\/m=12:=by omega
def ybD (y:Int):Int:=365 * (y-2000)+(y-1997) / 4-(y-1901) / 100+(y-1601) / 400
def mbD (l:Bool) (m:Nat):Nat:=([0,0,31,59,90,120,151,181,212,243,273,304,334]:List Nat).getD m 0+(bif l && Nat.blt 2 m then 1 else 0)
def mdD (l:Bool) (m:Nat):Nat:=([0,31,28,31,30,31,30,31,31,30,31,30,31]:List Nat).getD m 0+(bif l && Nat.beq 2 m then 1 else 0)
theorem ybw:∀ (l:Bool) (m m':Fin 13),1<=m.val->m<m'->mbD l m+mdD l m<=mbD l m':=by decide
theorem yqcb:∀ (l:Bool) (m:Fin 13),mdD l m<=31:=by decide
theorem y8n {l:Bool} {m:Int} (h1:1<=m) (h2:m<=12):mdD l m.toNat<=31:=yqcb l ⟨m.toNat,by omega⟩
theorem ygbb:∀ (l:Bool) (m:Fin 12),1<=m.val->mbD l (m.val+1)=mbD l m+mdD l m:=by decide
def ylm (a y m d:Int):Prop:=2000<=y/\1<=m/\m<=12/\1<=d/\d<=mdD (yib y) m.toNat/\a=ybD y+mbD (yib y) m.toNat+d-1
theorem yrn (y:Int) (h:2000<=y):ybD (y+1)=ybD y+365+(bif yib y then 1 else 0):=by
 have e1:y.tmod 4=y % 4:=Int.tmod_eq_emod_of_nonneg (by omega);have e2:y.tmod 100=y % 100:=Int.tmod_eq_emod_of_nonneg (by omega);have e3:y.tmod 400=y % 400:=Int.tmod_eq_emod_of_nonneg (by omega);by_cases hc:(y % 4=0/\y % 100≠0)\/y % 400=0
 ·have hl:yib y=true:=by unfold yib;rw[e1,e2,e3];simpa using hc
  rw[hl];simp only[cond_true];unfold ybD;omega
 ·have hl:yib y=false:=by unfold yib;rw[e1,e2,e3];simpa using hc
  rw[hl];simp only[cond_false];unfold ybD;omega
theorem ybj {y:Int} (h:2000<=y):0<=ybD y:=by unfold ybD;omega
theorem ya4 (y y':Int) (h:y<=y'):ybD y<=ybD y':=by unfold ybD;omega
theorem ykn {y:Int} (h:ybD y<=99999):y<=2273:=by unfold ybD at h;omega
theorem yvv {l:Bool} {m:Int} (h1:1<=m) (h2:m<=11):mbD l (m+1).toNat=mbD l m.toNat+mdD l m.toNat:=by
 have:=ygbb l ⟨m.toNat,by omega⟩ (by show 1<=m.toNat;omega);rw[show(m+1).toNat=m.toNat+1 by omega];exact this
theorem ym3 (l:Bool):mbD l 12+mdD l 12=365+(bif l then 1 else 0):=by cases l<;>rfl
theorem yll (l:Bool):mbD l 1=0:=by cases l<;>rfl
theorem yg4 {l:Bool} {m:Int} (h1:1<=m) (h2:m<=12):mbD l m.toNat+mdD l m.toNat<=365+(bif l then 1 else 0):=by
 rw[<- ym3 l];by_cases h:m=12
 ·subst h;exact Nat.le_refl _
 ·have:=ybw l ⟨m.toNat,by omega⟩ ⟨12,by omega⟩ (by show 1<=m.toNat;omega) (by show m.toNat<12;omega)
  have h3:mbD l m.toNat+mdD l m.toNat<=mbD l 12:=this;omega
theorem ylm.unique {a y m d y' m' d':Int} (h:ylm a y m d) (h':ylm a y' m' d'):y=y'/\m=m'/\d=d':=by
 obtain⟨hy,hm1,hm2,hd1,hd2,ha⟩:=h;obtain⟨hy',hm1',hm2',hd1',hd2',ha'⟩:=h';have e1:=yg4 (l:=yib y) hm1 hm2;have e1':=yg4 (l:=yib y') hm1' hm2';have l1:=yrn y hy;have l1':=yrn y' hy'
 have hyy:y=y':=by
  by_cases h1:y<y'
  ·have:=ya4 (y+1) y' (by omega)
   cases hl:yib y<;>cases hl':yib y'<;>simp only[hl,hl',cond_true,cond_false]at * <;> omega
  ·by_cases h2:y'<y
   ·have:=ya4 (y'+1) y (by omega)
    cases hl:yib y<;>cases hl':yib y'<;>simp only[hl,hl',cond_true,cond_false]at * <;> omega
   ·omega
 subst hyy
 have hmm:m=m':=by
  by_cases h1:m<m'
  ·have:=ybw (yib y) ⟨m.toNat,by omega⟩ ⟨m'.toNat,by omega⟩ (by show 1<=m.toNat;omega) (by show m.toNat<m'.toNat;omega)
   have h3:mbD (yib y) m.toNat+mdD (yib y) m.toNat<=mbD (yib y) m'.toNat:=this;omega
  ·by_cases h2:m'<m
   ·have:=ybw (yib y) ⟨m'.toNat,by omega⟩ ⟨m.toNat,by omega⟩ (by show 1<=m'.toNat;omega) (by show m'.toNat<m.toNat;omega)
    have h3:mbD (yib y) m'.toNat+mdD (yib y) m'.toNat<=mbD (yib y) m.toNat:=this;omega
   ·omega
 subst hmm;exact⟨rfl,rfl,by omega⟩
theorem yns {ρ σ:Type} {body:σ->Except ρ σ} {I:σ->Prop} {Q:ρ->Prop} (hi:∀ s,I s->match body s with|.error r=>Q r|.ok t=>I t) :
  ∀ (k:Nat) (s:σ),I s->match yab body k s with|.error r=>Q r|.ok t=>I t
 | 0,s,h=>by simpa [yab]using h
 | k+1,s,h=>by
  have:=hi s h;simp only[yab]
  cases hb:body s with
  | error r=>simp only[hb]at this ⊢;exact this
  | ok t=>simp only[hb]at this ⊢;exact yns hi k t this
theorem yni {ρ σ:Type} {body:σ->Except ρ σ} {I:σ->Prop} {Q:ρ->Prop} {M:σ->Nat} (hi:∀ s,I s->match body s with|.error r=>Q r|.ok t=>I t/\M t<M s) :
  ∀ (k:Nat) (s:σ),I s->M s<k->∃ r,yab body k s=.error r/\Q r
 | 0,s,h,hk=>by omega
 | k+1,s,h,hk=>by
  have:=hi s h;simp only[yab]
  cases hb:body s with
  | error r=>simp only[hb]at this ⊢;exact⟨r,rfl,this⟩
  | ok t=>simp only[hb]at this ⊢;exact yni hi k t this.1 (by omega)
end Go.Ab
namespace Go.Ab
open Go Go.Proofs
def zvf (a0:(List UInt8)) (a1:Int):(List UInt8):=Go.Lib.repeatL a0 a1.toNat
theorem yncb (a0:(List UInt8)) (a1:Int) (hp0:0<=a1) (hp1:a1<=9223372036854775807) (hp2:a0.length * a1.toNat<=140737488355328):Den Tryz.prog 161 [.str a0,.int .i64 a1] (.str (zvf a0 a1)):=by
 obtain⟨c,rfl⟩:∃ c:Nat,a1=c:=⟨a1.toNat,by omega⟩
 refine Den.plain ⟨_,Tryz.func161,rfl,rfl⟩ (by simp[yvb,y3b]) ?_;intro w M vs hI hr;simp only[RepL]at hr;obtain⟨u0,us0,f0,g0,rfl,h0e,h0,u1,us1,f1,g1,rfl,h1e,h1,rfl,_⟩:=hr;have e0:=h0.val_str;have e1:=h1.val_int;subst e0 e1;have hsz:(⟨a0.toArray⟩:ByteArray).size=a0.length:=by simp[ByteArray.size]
 refine(Any.strings_Repeat Tryz.lays105 Tryz.Builder_Extra_105 ⟨a0.toArray⟩ c w (by omega) (by rw[hsz];simpa using hp2)).mono ?_;rintro e w' ⟨rfl,hB⟩
 exact⟨_,rfl,y6g hB,fun M'=>y7b _ (by unfold zvf;rw[ywl];simp only[Int.toNat_natCast]at hp2;unfold maxLen;show a0.length * c<=_;omega)⟩
def D_zvf : DF
 | [x0,x1]=>some (.str (zvf (rdS x0) (rdI x1)),false,[wS x0,wI .i64 x1,0<=(rdI x1),(rdI x1)<=9223372036854775807,(rdS x0).length * (rdI x1).toNat<=140737488355328])
 | _=>none
theorem yb5:OkD Tryz.prog 161 D_zvf:=by
 intro xs r z ob h ho;unfold D_zvf at h;split at h
 ·simp only[Option.some.injEq,Prod.mk.injEq]at h
  obtain⟨rfl,rfl,rfl⟩:=h;obtain⟨h0,h1,hp0,hp1,hp2,_⟩:=ho;exact Den.sim (yncb _ _ hp0 hp1 hp2) (yv (yob h0).1 <| yv (yke h1).1 <| trivial) (y7 (yob h0).2 <| y7 (yke h1).2 <| rfl) rfl
 ·cases h
theorem y9v (a:List UInt8) (c:Int):(zvf a c).length=a.length * c.toNat:=by
 unfold zvf;rw[ywl]
end Go.Ab
