/- A part of a proof: walks of functions and lemmas of our own. No conditions. -/
import Derived.Test.YtijmcongeemehaaGreatDoorEAl
import Derived.Test.YtijmcongeemehaaGreatDoorEAi
import Derived.Test.YtijmcongeemehaaGreatDoorEAm
import Derived.Shelf.Strings.Prefix
import Derived.Shelf.Strings.Search3
import Derived.Shelf.Strings.Cut
import Derived.Shelf.Strings.Builder1
import Derived.Shelf.Strings.Builder2
import Derived.Shelf.Strings.OnBuilder
import Derived.Shelf.Small.Strs
import Derived.Shelf.Small.Wraps
import Derived.Shelf.Strings.BuilderF
import Derived.Shelf.Utf8.RuneCount
import Derived.Shelf.Strconv.Itoa0
import Derived.Shelf.Strconv.Itoa1
import Derived.Shelf.LaysM
import Derived.Shelf.Strconv.Itoa2
import Derived.Shelf.Strconv.Itoa3
import Derived.Shelf.Strconv.Itoa4
import Derived.Shelf.Strconv.ParseIntEmpty
import Derived.Shelf.Strconv.Clone
import Derived.Shelf.Strconv.SyntaxError
import Derived.Shelf.LaysC
import Derived.Shelf.Strconv.ToError
import Derived.Shelf.Strconv.Lower
import Derived.Shelf.Strconv.ParseUint10
import Derived.Shelf.Strconv.ParseUint10Empty
import Derived.Shelf.Strconv.ParseUint10Any
import Derived.Shelf.Strconv.ParseInt10
import Derived.Shelf.Strconv.RangeError
import Derived.Shelf.Strconv.ToErrorRange
import Derived.Shelf.Strconv.ParseUintEmpty
import Derived.Shelf.Strconv.ParseUint10b64
import Derived.Shelf.Strconv.ParseUint10b32
import Derived.Shelf.Strconv.ParseUint10b16
import Derived.Shelf.Strconv.ParseUint10b8
import Derived.Shelf.Strconv.ParseUint10At
import Derived.Shelf.Strconv.ParseInt10At64
import Derived.Shelf.Strconv.ParseInt10At32
import Derived.Shelf.Strconv.ParseInt10At16
import Derived.Shelf.Strconv.ParseInt10At8
import Derived.Shelf.Strconv.ParseInt10All
import Derived.Shelf.Strconv.ParseIntPublic10
import Derived.Shelf.Strconv.ErrVarParseInt
import Derived.Shelf.Strings.Search1
import Derived.Shelf.Strings.Search2
import Derived.Shelf.Strings.Count
import Derived.Shelf.Strings.Shaped
import Derived.Shelf.Strings.Split
import Derived.Shelf.Strings.Fields
import Derived.Shelf.Strings.SplitShaped
import Derived.Shelf.Unicode.Latin
import Derived.Shelf.Unicode.Decode
import Derived.Shelf.Strings.RuneCount
import Derived.Shelf.Strings.Explode
import Derived.Shelf.Bits.Mul64
import Derived.Shelf.Strings.Repeat
import Derived.Shelf.Unicode.DecodeSlow
import Derived.Shelf.Unicode.DecodeAny
import Derived.Shelf.Unicode.Is16White
import Derived.Shelf.Unicode.IsSpaceAny
import Derived.Shelf.Unicode.Is16Any
import Derived.Shelf.Unicode.Is32Any
import Derived.Shelf.Unicode.ExclAny
import Derived.Test.YtijmcongeemehaaGreatDoorProg
import Derived.Lib.ParseIntBTie
import Derived.Lib.ItoaNum
import Derived.Lib.Strings
import Derived.Below
import Derived.Handy
import Derived.WideShapes
import Derived.ProofKit
set_option linter.unusedSectionVars false
set_option linter.unusedVariables false
set_option linter.unusedSimpArgs false
set_option maxHeartbeats 1000000
namespace Go.Ab
open Go Go.Proofs
def ywm (a0:(List Int)) (a1:(List Int)) (i1:Nat) (s1:Unit):Except (Bool) (Unit):=
 (bif ((a0.getD i1 default) != (a1.getD i1 default))then .error false else .ok ())
def znc (a0:(List Int)) (a1:(List Int)):Bool:=
 (bif ((a0.length:Int) != (a1.length:Int))then false else(match yd (ywm a0 a1) (a0.length-0) 0 ()with|.error e=>e|.ok s1=>true))
namespace N269
theorem DD:DOk Tryz.prog (Go.Ab.DD []):=ye _
theorem den (a0:(List Int)) (a1:(List Int))  : Den Tryz.prog 269 [encL 1 yt a0,encL 1 yt a1] (.bool (znc a0 a1)):=by
 generalize hR:znc a0 a1=r;unfold znc at hR;refine di Tryz.func269 Tryz.ntmps269 Tryz.results269 ?_;intro c hL hc hk;obtain⟨hL0,hL1,_⟩:=hL;have hw0:a0.length<9223372036854775808:=Nat.lt_succ_of_le (yj hL0).1;have hw1:a1.length<9223372036854775808:=Nat.lt_succ_of_le (yj hL1).1;clear hL0 hL1;simp only[pars,Nat.zero_add];iterate 2 refine rS ?_
 refine AWP.cond rfl (fun hb => ?_) (fun hb => ?_)
 ·replace hR:=ct hR
  refine rS ?_;refine AWP.ret ?_;subst hR;exact es
 ·replace hR:=cf hR
  refine rS ?_;refine AWP.block ?_;generalize hz1:yd (ywm a0 a1) (a0.length-0) 0 ()=z1 at hR;refine AWP.range (ywm a0 a1) (fun i1 s1=>⟨[(0,encL 1 yt a0),(1,encL 1 yt a1),(12,.int .i64 (a0.length:Int)),(13,.int .i64 (i1:Int))],[]⟩) (fun i1 s1=>True) (a0.length) 0 () [] hz1 ot wt sm ?_;clear hz1;intro i1 s1 hi1 hW1 hz1;refine rS ?_;refine AWP.seq ?_;refine AWP.cond rfl (fun hb => ?_) (fun hb => ?_)
  ·have hlt1:i1<a0.length:=ot
   rw[yg hlt1]at hz1;simp only[ywm]at hz1;refine rS ?_;refine rD 8 ?_;refine AWP.cond rfl (fun hb => ?_) (fun hb => ?_)
   ·simp only[hb,cond_true]at hz1
    refine rS ?_;refine AWP.ret ?_;subst hz1;dsimp only at hR;subst hR;exact es
   ·simp only[hb,cond_false]at hz1
    refine rS ?_;exact⟨_,[],hlt1,wt,hz1,sm⟩
  ·obtain rfl:i1=a0.length:=ot
   rw[yh (Nat.le_refl _)]at hz1;subst hz1;dsimp only at hR;refine AWP.exit ?_;refine yb ?_;refine rS ?_;refine AWP.ret ?_;subst hR;exact es
end N269
def D_znc : DF
 | [x0,x1]=>some (.bool (znc (rdL y5b x0) (rdL y5b x1)),false,[wL 1 yt y5b x0,wL 1 yt y5b x1])
 | _=>none
theorem y4v:OkD Tryz.prog 269 D_znc:=by unfold D_znc;exact dk N269.den
def yik {α ρ σ : Type} (g : α -> σ -> Except ρ σ) : List α -> σ -> Except ρ σ
  | [],s=>.ok s
  | x :: t, s => match g x s with
    | .error r=>.error r
    | .ok s'=>yik g t s'
theorem yhg {α ρ σ : Type} (g : α -> σ -> Except ρ σ) (x : α) (t : List α) (s : σ) : yik g (x :: t) s = match g x s with
  | .error r=>.error r
  | .ok s'=>yik g t s':=rfl
theorem ypn {α ρ σ : Type} [Inhabited α] {b : Nat -> σ -> Except ρ σ} (g : α -> σ -> Except ρ σ) (l : List α) : ∀ (k i : Nat) (s : σ), i + k = l.length -> (∀ j u, i <= j -> j < l.length -> b j u = g (l.getD j default) u) -> yd b k i s = yik g (l.drop i) s
 | 0,i,s,h,_=>by rw[List.drop_eq_nil_of_le (by omega)];rfl
 | k+1,i,s,h,hb=>by
  have hi:i<l.length:=by omega
  rw[List.drop_eq_getElem_cons hi];simp only[yd,yik];rw[hb i s (Nat.le_refl _) hi,List.getD_eq_getElem?_getD,List.getElem?_eq_getElem hi,Option.getD_some]
  cases g l[i] s with
  | error r=>rfl
  | ok s'=>exact ypn g l k (i+1) s' (by omega) (fun j u h1 h2=>hb j u (by omega) h2)
theorem yud {α ρ σ:Type} [Inhabited α] {b:Nat->σ->Except ρ σ} (g:α->σ->Except ρ σ) (l:List α) (s:σ) (hb:∀ j u,j<l.length->b j u=g (l.getD j default) u):yd b (l.length-0) 0 s=yik g l s:=by
 rw[ypn g l (l.length-0) 0 s (by omega) (fun j u _ h=>hb j u h),List.drop_zero]
theorem ya4 {α β:Type} [Inhabited α] [Inhabited β] (f:α->β) (l:List α) (i:Nat) (h:i<l.length):(l.map f).getD i default=f (l.getD i default):=by
 simp[List.getD_eq_getElem?_getD,h]
theorem yhp {j:Nat} (h:0<j) (hn:j<9223372036854775808):(IntKind.wrap .i64 ((j:Int)-1)).toNat=j-1:=by
 rw[IntKind.wrap_i64];omega
end Go.Ab
namespace Go.Ab
open Go Go.Proofs
theorem y2c (a b:List UInt8):(Go.Lib.trimSuffix a b).length<=a.length:=by
 unfold Go.Lib.trimSuffix;split
 ·simp
 ·omega
theorem ypt (a b:List UInt8):(Go.Lib.cut a b).1.length<=a.length/\(Go.Lib.cut a b).2.1.length<=a.length:=by
 unfold Go.Lib.cut;split
 ·simp only[List.length_take,List.length_drop];omega
 ·simp
theorem ycy (w:World) (k:Nat):Grow w (w.drewN k):=⟨rfl,rfl,rfl,Nat.le_refl _,fun _ _=>rfl⟩
theorem ya6 {w:World} {M:Nat->Prop} {μ:Map} {x y:AV} {u v:Value} (h1:Rep w M x μ u []) (h2:Rep w M y μ v []):Rep w M (.tup [x,y]) μ (.tuple #[u,v]) []:=by
 simp only[Rep,RepL];exact⟨[u,v],rfl,u,[v],[],[],rfl,rfl,h1,v,[],[],[],rfl,rfl,h2,rfl,rfl⟩
theorem yi0 {w:World} {M:Nat->Prop} {μ:Map} {x y z:AV} {u v t:Value} (h1:Rep w M x μ u []) (h2:Rep w M y μ v []) (h3:Rep w M z μ t []):Rep w M (.tup [x,y,z]) μ (.tuple #[u,v,t]) []:=by
 simp only[Rep,RepL];exact⟨[u,v,t],rfl,u,[v,t],[],[],rfl,rfl,h1,v,[t],[],[],rfl,rfl,h2,t,[],[],[],rfl,rfl,h3,rfl,rfl⟩
end Go.Ab
namespace Go.Proofs
open Go.Shelf
def Tryz.lays156_ren:Go.Shelf.Ren:=⟨fun|156=>62|165=>143|166=>144|169=>145|240=>224|241=>225|276=>278|277=>279|n=>n,fun|31=>109|9=>9|3=>3|4=>4|0=>0|20=>20|72=>173|76=>177|70=>171|37=>22|75=>176|127=>224|164=>244|5=>5|80=>170|n=>n,fun|n=>n⟩
theorem Tryz.lays156 : Go.Proofs.Lays.n156 Tryz.prog Tryz.lays156_ren := {
 mixed:=by kernel_rfl
 f156:=Tryz.func62.trans (congrArg some (by kernel_rfl))
 f165:=Tryz.func143.trans (congrArg some (by kernel_rfl))
 f166:=Tryz.func144.trans (congrArg some (by kernel_rfl))
 f169:=Tryz.func145.trans (congrArg some (by kernel_rfl))
 f240:=Tryz.func224.trans (congrArg some (by kernel_rfl))
 f241:=Tryz.func225.trans (congrArg some (by kernel_rfl))
 f276:=Tryz.func278.trans (congrArg some (by kernel_rfl))
 f277:=Tryz.func279.trans (congrArg some (by kernel_rfl))
 t0:=Tryz.underlying0
 a0:=Tryz.isAgg0
 z0:=Tryz.sizeOf0
 v0:=Tryz.zeroValue0
 t3:=Tryz.underlying3
 a3:=Tryz.isAgg3
 z3:=Tryz.sizeOf3
 v3:=Tryz.zeroValue3
 t4:=Tryz.underlying4
 a4:=Tryz.isAgg4
 z4:=Tryz.sizeOf4
 v4:=Tryz.zeroValue4
 t9:=Tryz.underlying9
 a9:=Tryz.isAgg9
 z9:=Tryz.sizeOf9
 v9:=Tryz.zeroValue9
 t20:=Tryz.underlying20
 a20:=Tryz.isAgg20
 z20:=Tryz.sizeOf20
 v20:=Tryz.zeroValue20
 t31:=Tryz.underlying109
 a31:=Tryz.isAgg109
 z31:=Tryz.sizeOf109
 v31:=Tryz.zeroValue109
 t37:=Tryz.underlying22
 a37:=Tryz.isAgg22
 z37:=Tryz.sizeOf22
 v37:=Tryz.zeroValue22
 t70:=Tryz.underlying171
 a70:=Tryz.isAgg171
 z70:=Tryz.sizeOf171
 v70:=Tryz.zeroValue171
 t72:=Tryz.underlying173
 a72:=Tryz.isAgg173
 z72:=Tryz.sizeOf173
 v72:=Tryz.zeroValue173
 t75:=Tryz.underlying176
 a75:=Tryz.isAgg176
 z75:=Tryz.sizeOf176
 v75:=Tryz.zeroValue176
 t76:=Tryz.underlying177
 a76:=Tryz.isAgg177
 z76:=Tryz.sizeOf177
 v76:=Tryz.zeroValue177
 t127:=Tryz.underlying224
 a127:=Tryz.isAgg224
 z127:=Tryz.sizeOf224
 v127:=Tryz.zeroValue224
 t164:=Tryz.underlying244
 a164:=Tryz.isAgg244
 z164:=Tryz.sizeOf244
 v164:=Tryz.zeroValue244 }
theorem Tryz.Builder_Extra_156 : Builder.Extra Tryz.prog Tryz.lays156_ren := {
 sizeBuilder:=by kernel_rfl
 liesBuilder:=by kernel_rfl
 t5:=Tryz.underlying5
 a5:=Tryz.isAgg5
 z5:=Tryz.sizeOf5
 v5:=Tryz.zeroValue5
 infoByte:=by kernel_rfl
 cellsByte:=by kernel_rfl
 sizeByte:=by kernel_rfl
 neB5:=by decide }
def Tryz.lays137_ren:Go.Shelf.Ren:=⟨fun|137=>267|217=>314|266=>334|n=>n,fun|9=>9|5=>5|3=>3|n=>n,fun|n=>n⟩
theorem Tryz.lays137 : Go.Proofs.Lays.n137 Tryz.prog Tryz.lays137_ren := {
 mixed:=by kernel_rfl
 f137:=Tryz.func267.trans (congrArg some (by kernel_rfl))
 f217:=Tryz.func314.trans (congrArg some (by kernel_rfl))
 f266:=Tryz.func334.trans (congrArg some (by kernel_rfl))
 t3:=Tryz.underlying3
 a3:=Tryz.isAgg3
 z3:=Tryz.sizeOf3
 v3:=Tryz.zeroValue3
 t5:=Tryz.underlying5
 a5:=Tryz.isAgg5
 z5:=Tryz.sizeOf5
 v5:=Tryz.zeroValue5
 t9:=Tryz.underlying9
 a9:=Tryz.isAgg9
 z9:=Tryz.sizeOf9
 v9:=Tryz.zeroValue9 }
def Tryz.lays104_ren:Go.Shelf.Ren:=⟨fun|104=>243|211=>297|207=>298|n=>n,fun|9=>9|4=>4|24=>232|3=>3|n=>n,fun|n=>n⟩
theorem Tryz.lays104 : Go.Proofs.Lays.n104 Tryz.prog Tryz.lays104_ren := {
 mixed:=by kernel_rfl
 f104:=Tryz.func243.trans (congrArg some (by kernel_rfl))
 f207:=Tryz.func298.trans (congrArg some (by kernel_rfl))
 f211:=Tryz.func297.trans (congrArg some (by kernel_rfl))
 t3:=Tryz.underlying3
 a3:=Tryz.isAgg3
 z3:=Tryz.sizeOf3
 v3:=Tryz.zeroValue3
 t4:=Tryz.underlying4
 a4:=Tryz.isAgg4
 z4:=Tryz.sizeOf4
 v4:=Tryz.zeroValue4
 t9:=Tryz.underlying9
 a9:=Tryz.isAgg9
 z9:=Tryz.sizeOf9
 v9:=Tryz.zeroValue9
 t24:=Tryz.underlying232
 a24:=Tryz.isAgg232
 z24:=Tryz.sizeOf232
 v24:=Tryz.zeroValue232 }
def Tryz.laysM173_ren:Go.Shelf.Ren:=⟨fun|173=>146|246=>226|283=>280|284=>281|285=>282|286=>283|129=>316|317=>315|318=>317|319=>318|320=>319|337=>335|338=>336|n=>n,fun|2=>2|3=>3|9=>9|4=>4|171=>247|0=>0|53=>145|37=>22|5=>5|173=>250|212=>272|51=>273|20=>20|213=>274|46=>198|232=>311|233=>312|n=>n,fun|17=>2|18=>8|19=>9|n=>n⟩
theorem Tryz.laysM173 : Go.Proofs.LaysM.n173 Tryz.prog Tryz.laysM173_ren := {
 mixed:=by kernel_rfl
 f129:=Tryz.func316.trans (congrArg some (by kernel_rfl))
 f173:=Tryz.func146.trans (congrArg some (by kernel_rfl))
 f246:=Tryz.func226.trans (congrArg some (by kernel_rfl))
 f283:=Tryz.func280.trans (congrArg some (by kernel_rfl))
 f284:=Tryz.func281.trans (congrArg some (by kernel_rfl))
 f285:=Tryz.func282.trans (congrArg some (by kernel_rfl))
 f286:=Tryz.func283.trans (congrArg some (by kernel_rfl))
 f317:=Tryz.func315.trans (congrArg some (by kernel_rfl))
 f318:=Tryz.func317.trans (congrArg some (by kernel_rfl))
 f319:=Tryz.func318.trans (congrArg some (by kernel_rfl))
 f320:=Tryz.func319.trans (congrArg some (by kernel_rfl))
 f337:=Tryz.func335.trans (congrArg some (by kernel_rfl))
 f338:=Tryz.func336.trans (congrArg some (by kernel_rfl))
 t0:=Tryz.underlying0
 a0:=Tryz.isAgg0
 z0:=Tryz.sizeOf0
 v0:=Tryz.zeroValue0
 t2:=Tryz.underlying2
 a2:=Tryz.isAgg2
 z2:=Tryz.sizeOf2
 v2:=Tryz.zeroValue2
 t3:=Tryz.underlying3
 a3:=Tryz.isAgg3
 z3:=Tryz.sizeOf3
 v3:=Tryz.zeroValue3
 t4:=Tryz.underlying4
 a4:=Tryz.isAgg4
 z4:=Tryz.sizeOf4
 v4:=Tryz.zeroValue4
 t5:=Tryz.underlying5
 a5:=Tryz.isAgg5
 z5:=Tryz.sizeOf5
 v5:=Tryz.zeroValue5
 t9:=Tryz.underlying9
 a9:=Tryz.isAgg9
 z9:=Tryz.sizeOf9
 v9:=Tryz.zeroValue9
 t20:=Tryz.underlying20
 a20:=Tryz.isAgg20
 z20:=Tryz.sizeOf20
 v20:=Tryz.zeroValue20
 t37:=Tryz.underlying22
 a37:=Tryz.isAgg22
 z37:=Tryz.sizeOf22
 v37:=Tryz.zeroValue22
 t46:=Tryz.underlying198
 a46:=Tryz.isAgg198
 z46:=Tryz.sizeOf198
 v46:=Tryz.zeroValue198
 t51:=Tryz.underlying273
 a51:=Tryz.isAgg273
 z51:=Tryz.sizeOf273
 v51:=Tryz.zeroValue273
 t53:=Tryz.underlying145
 a53:=Tryz.isAgg145
 z53:=Tryz.sizeOf145
 v53:=Tryz.zeroValue145
 t171:=Tryz.underlying247
 a171:=Tryz.isAgg247
 z171:=Tryz.sizeOf247
 v171:=Tryz.zeroValue247
 t173:=Tryz.underlying250
 a173:=Tryz.isAgg250
 z173:=Tryz.sizeOf250
 v173:=Tryz.zeroValue250
 t212:=Tryz.underlying272
 a212:=Tryz.isAgg272
 z212:=Tryz.sizeOf272
 v212:=Tryz.zeroValue272
 t213:=Tryz.underlying274
 a213:=Tryz.isAgg274
 z213:=Tryz.sizeOf274
 t232:=Tryz.underlying311
 a232:=Tryz.isAgg311
 z232:=Tryz.sizeOf311
 v232:=Tryz.zeroValue311
 t233:=Tryz.underlying312
 a233:=Tryz.isAgg312
 z233:=Tryz.sizeOf312
 v233:=Tryz.zeroValue312
 g17:=by kernel_rfl
 g18:=by kernel_rfl
 g19:=by kernel_rfl
 i0:=by kernel_rfl
 i2:=by kernel_rfl
 i3:=by kernel_rfl
 i4:=by kernel_rfl
 i5:=by kernel_rfl
 i9:=by kernel_rfl
 i20:=by kernel_rfl
 i37:=by kernel_rfl
 i46:=by kernel_rfl
 i51:=by kernel_rfl
 i53:=by kernel_rfl
 i171:=by kernel_rfl
 i173:=by kernel_rfl
 i212:=by kernel_rfl
 i232:=by kernel_rfl
 i233:=by kernel_rfl
 m17:=by kernel_rfl
 m18:=by kernel_rfl
 m19:=by kernel_rfl }
def Tryz.laysC174_ren:Go.Shelf.Ren:=⟨fun|174=>163|247=>240|245=>241|287=>292|279=>293|280=>294|281=>295|282=>296|321=>324|322=>325|316=>326|171=>328|205=>327|243=>338|246=>226|283=>280|284=>281|285=>282|286=>283|129=>316|317=>315|318=>317|319=>318|320=>319|337=>335|338=>336|n=>n,fun|9=>9|3=>3|2=>2|75=>176|85=>193|4=>4|167=>257|5=>5|53=>145|175=>258|46=>198|168=>260|37=>22|0=>0|210=>279|21=>21|127=>224|145=>296|143=>294|171=>247|173=>250|212=>272|51=>273|20=>20|213=>274|232=>311|233=>312|80=>170|n=>n,fun|15=>3|16=>4|17=>2|18=>8|19=>9|n=>n⟩
theorem Tryz.laysC174 : Go.Proofs.LaysC.n174 Tryz.prog Tryz.laysC174_ren := {
 mixed:=by kernel_rfl
 f129:=Tryz.func316.trans (congrArg some (by kernel_rfl))
 f171:=Tryz.func328.trans (congrArg some (by kernel_rfl))
 f174:=Tryz.func163.trans (congrArg some (by kernel_rfl))
 f205:=Tryz.func327.trans (congrArg some (by kernel_rfl))
 f243:=Tryz.func338.trans (congrArg some (by kernel_rfl))
 f245:=Tryz.func241.trans (congrArg some (by kernel_rfl))
 f246:=Tryz.func226.trans (congrArg some (by kernel_rfl))
 f247:=Tryz.func240.trans (congrArg some (by kernel_rfl))
 f279:=Tryz.func293.trans (congrArg some (by kernel_rfl))
 f280:=Tryz.func294.trans (congrArg some (by kernel_rfl))
 f281:=Tryz.func295.trans (congrArg some (by kernel_rfl))
 f282:=Tryz.func296.trans (congrArg some (by kernel_rfl))
 f283:=Tryz.func280.trans (congrArg some (by kernel_rfl))
 f284:=Tryz.func281.trans (congrArg some (by kernel_rfl))
 f285:=Tryz.func282.trans (congrArg some (by kernel_rfl))
 f286:=Tryz.func283.trans (congrArg some (by kernel_rfl))
 f287:=Tryz.func292.trans (congrArg some (by kernel_rfl))
 f316:=Tryz.func326.trans (congrArg some (by kernel_rfl))
 f317:=Tryz.func315.trans (congrArg some (by kernel_rfl))
 f318:=Tryz.func317.trans (congrArg some (by kernel_rfl))
 f319:=Tryz.func318.trans (congrArg some (by kernel_rfl))
 f320:=Tryz.func319.trans (congrArg some (by kernel_rfl))
 f321:=Tryz.func324.trans (congrArg some (by kernel_rfl))
 f322:=Tryz.func325.trans (congrArg some (by kernel_rfl))
 f337:=Tryz.func335.trans (congrArg some (by kernel_rfl))
 f338:=Tryz.func336.trans (congrArg some (by kernel_rfl))
 t0:=Tryz.underlying0
 a0:=Tryz.isAgg0
 z0:=Tryz.sizeOf0
 v0:=Tryz.zeroValue0
 t2:=Tryz.underlying2
 a2:=Tryz.isAgg2
 z2:=Tryz.sizeOf2
 v2:=Tryz.zeroValue2
 t3:=Tryz.underlying3
 a3:=Tryz.isAgg3
 z3:=Tryz.sizeOf3
 v3:=Tryz.zeroValue3
 t4:=Tryz.underlying4
 a4:=Tryz.isAgg4
 z4:=Tryz.sizeOf4
 v4:=Tryz.zeroValue4
 t5:=Tryz.underlying5
 a5:=Tryz.isAgg5
 z5:=Tryz.sizeOf5
 v5:=Tryz.zeroValue5
 t9:=Tryz.underlying9
 a9:=Tryz.isAgg9
 z9:=Tryz.sizeOf9
 v9:=Tryz.zeroValue9
 t20:=Tryz.underlying20
 a20:=Tryz.isAgg20
 z20:=Tryz.sizeOf20
 v20:=Tryz.zeroValue20
 t21:=Tryz.underlying21
 a21:=Tryz.isAgg21
 z21:=Tryz.sizeOf21
 v21:=Tryz.zeroValue21
 t37:=Tryz.underlying22
 a37:=Tryz.isAgg22
 z37:=Tryz.sizeOf22
 v37:=Tryz.zeroValue22
 t46:=Tryz.underlying198
 a46:=Tryz.isAgg198
 z46:=Tryz.sizeOf198
 v46:=Tryz.zeroValue198
 t51:=Tryz.underlying273
 a51:=Tryz.isAgg273
 z51:=Tryz.sizeOf273
 v51:=Tryz.zeroValue273
 t53:=Tryz.underlying145
 a53:=Tryz.isAgg145
 z53:=Tryz.sizeOf145
 v53:=Tryz.zeroValue145
 t75:=Tryz.underlying176
 a75:=Tryz.isAgg176
 z75:=Tryz.sizeOf176
 v75:=Tryz.zeroValue176
 t85:=Tryz.underlying193
 a85:=Tryz.isAgg193
 z85:=Tryz.sizeOf193
 v85:=Tryz.zeroValue193
 t127:=Tryz.underlying224
 a127:=Tryz.isAgg224
 z127:=Tryz.sizeOf224
 v127:=Tryz.zeroValue224
 t143:=Tryz.underlying294
 a143:=Tryz.isAgg294
 z143:=Tryz.sizeOf294
 v143:=Tryz.zeroValue294
 t145:=Tryz.underlying296
 a145:=Tryz.isAgg296
 z145:=Tryz.sizeOf296
 v145:=Tryz.zeroValue296
 t167:=Tryz.underlying257
 a167:=Tryz.isAgg257
 z167:=Tryz.sizeOf257
 v167:=Tryz.zeroValue257
 t168:=Tryz.underlying260
 a168:=Tryz.isAgg260
 z168:=Tryz.sizeOf260
 v168:=Tryz.zeroValue260
 t171:=Tryz.underlying247
 a171:=Tryz.isAgg247
 z171:=Tryz.sizeOf247
 v171:=Tryz.zeroValue247
 t173:=Tryz.underlying250
 a173:=Tryz.isAgg250
 z173:=Tryz.sizeOf250
 v173:=Tryz.zeroValue250
 t175:=Tryz.underlying258
 a175:=Tryz.isAgg258
 z175:=Tryz.sizeOf258
 v175:=Tryz.zeroValue258
 t210:=Tryz.underlying279
 a210:=Tryz.isAgg279
 z210:=Tryz.sizeOf279
 v210:=Tryz.zeroValue279
 t212:=Tryz.underlying272
 a212:=Tryz.isAgg272
 z212:=Tryz.sizeOf272
 v212:=Tryz.zeroValue272
 t213:=Tryz.underlying274
 a213:=Tryz.isAgg274
 z213:=Tryz.sizeOf274
 t232:=Tryz.underlying311
 a232:=Tryz.isAgg311
 z232:=Tryz.sizeOf311
 v232:=Tryz.zeroValue311
 t233:=Tryz.underlying312
 a233:=Tryz.isAgg312
 z233:=Tryz.sizeOf312
 v233:=Tryz.zeroValue312
 g15:=by kernel_rfl
 g16:=by kernel_rfl
 g17:=by kernel_rfl
 g18:=by kernel_rfl
 g19:=by kernel_rfl
 t80:=Tryz.underlying170
 a80:=Tryz.isAgg170
 z80:=Tryz.sizeOf170
 v80:=Tryz.zeroValue170
 i0:=by kernel_rfl
 i2:=by kernel_rfl
 i3:=by kernel_rfl
 i4:=by kernel_rfl
 i5:=by kernel_rfl
 i9:=by kernel_rfl
 i20:=by kernel_rfl
 i21:=by kernel_rfl
 i37:=by kernel_rfl
 i46:=by kernel_rfl
 i51:=by kernel_rfl
 i53:=by kernel_rfl
 i75:=by kernel_rfl
 i80:=by kernel_rfl
 i85:=by kernel_rfl
 i127:=by kernel_rfl
 i143:=by kernel_rfl
 i145:=by kernel_rfl
 i167:=by kernel_rfl
 i168:=by kernel_rfl
 i171:=by kernel_rfl
 i173:=by kernel_rfl
 i175:=by kernel_rfl
 i210:=by kernel_rfl
 i212:=by kernel_rfl
 i232:=by kernel_rfl
 i233:=by kernel_rfl
 m15:=by kernel_rfl
 m16:=by kernel_rfl
 m17:=by kernel_rfl
 m18:=by kernel_rfl
 m19:=by kernel_rfl
 c0:=by kernel_rfl
 c2:=by kernel_rfl
 c3:=by kernel_rfl
 c4:=by kernel_rfl
 c5:=by kernel_rfl
 c9:=by kernel_rfl
 c20:=by kernel_rfl
 c21:=by kernel_rfl
 c37:=by kernel_rfl
 c46:=by kernel_rfl
 c51:=by kernel_rfl
 c53:=by kernel_rfl
 c75:=by kernel_rfl
 c80:=by kernel_rfl
 c85:=by kernel_rfl
 c127:=by kernel_rfl
 c143:=by kernel_rfl
 c145:=by kernel_rfl
 c167:=by kernel_rfl
 c168:=by kernel_rfl
 c171:=by kernel_rfl
 c173:=by kernel_rfl
 c175:=by kernel_rfl
 c210:=by kernel_rfl
 c212:=by kernel_rfl
 c213:=by kernel_rfl
 c232:=by kernel_rfl
 c233:=by kernel_rfl }
def Tryz.lays144_ren:Go.Shelf.Ren:=⟨fun|144=>222|143=>238|219=>290|217=>314|225=>321|224=>322|267=>323|266=>334|314=>337|n=>n,fun|9=>9|4=>4|3=>3|5=>5|46=>198|146=>292|51=>273|n=>n,fun|1=>1|n=>n⟩
theorem Tryz.lays144 : Go.Proofs.Lays.n144 Tryz.prog Tryz.lays144_ren := {
 mixed:=by kernel_rfl
 f143:=Tryz.func238.trans (congrArg some (by kernel_rfl))
 f144:=Tryz.func222.trans (congrArg some (by kernel_rfl))
 f217:=Tryz.func314.trans (congrArg some (by kernel_rfl))
 f219:=Tryz.func290.trans (congrArg some (by kernel_rfl))
 f224:=Tryz.func322.trans (congrArg some (by kernel_rfl))
 f225:=Tryz.func321.trans (congrArg some (by kernel_rfl))
 f266:=Tryz.func334.trans (congrArg some (by kernel_rfl))
 f267:=Tryz.func323.trans (congrArg some (by kernel_rfl))
 f314:=Tryz.func337.trans (congrArg some (by kernel_rfl))
 t3:=Tryz.underlying3
 a3:=Tryz.isAgg3
 z3:=Tryz.sizeOf3
 v3:=Tryz.zeroValue3
 t4:=Tryz.underlying4
 a4:=Tryz.isAgg4
 z4:=Tryz.sizeOf4
 v4:=Tryz.zeroValue4
 t5:=Tryz.underlying5
 a5:=Tryz.isAgg5
 z5:=Tryz.sizeOf5
 v5:=Tryz.zeroValue5
 t9:=Tryz.underlying9
 a9:=Tryz.isAgg9
 z9:=Tryz.sizeOf9
 v9:=Tryz.zeroValue9
 t46:=Tryz.underlying198
 a46:=Tryz.isAgg198
 z46:=Tryz.sizeOf198
 v46:=Tryz.zeroValue198
 t51:=Tryz.underlying273
 a51:=Tryz.isAgg273
 z51:=Tryz.sizeOf273
 v51:=Tryz.zeroValue273
 t146:=Tryz.underlying292
 a146:=Tryz.isAgg292
 z146:=Tryz.sizeOf292
 v146:=Tryz.zeroValue292
 g1:=by kernel_rfl }
def Tryz.lays145_ren:Go.Shelf.Ren:=⟨fun|145=>164|220=>242|219=>290|217=>314|225=>321|224=>322|267=>323|266=>334|314=>337|n=>n,fun|9=>9|4=>4|59=>195|3=>3|5=>5|46=>198|146=>292|51=>273|n=>n,fun|1=>1|n=>n⟩
theorem Tryz.lays145 : Go.Proofs.Lays.n145 Tryz.prog Tryz.lays145_ren := {
 mixed:=by kernel_rfl
 f145:=Tryz.func164.trans (congrArg some (by kernel_rfl))
 f217:=Tryz.func314.trans (congrArg some (by kernel_rfl))
 f219:=Tryz.func290.trans (congrArg some (by kernel_rfl))
 f220:=Tryz.func242.trans (congrArg some (by kernel_rfl))
 f224:=Tryz.func322.trans (congrArg some (by kernel_rfl))
 f225:=Tryz.func321.trans (congrArg some (by kernel_rfl))
 f266:=Tryz.func334.trans (congrArg some (by kernel_rfl))
 f267:=Tryz.func323.trans (congrArg some (by kernel_rfl))
 f314:=Tryz.func337.trans (congrArg some (by kernel_rfl))
 t3:=Tryz.underlying3
 a3:=Tryz.isAgg3
 z3:=Tryz.sizeOf3
 v3:=Tryz.zeroValue3
 t4:=Tryz.underlying4
 a4:=Tryz.isAgg4
 z4:=Tryz.sizeOf4
 v4:=Tryz.zeroValue4
 t5:=Tryz.underlying5
 a5:=Tryz.isAgg5
 z5:=Tryz.sizeOf5
 v5:=Tryz.zeroValue5
 t9:=Tryz.underlying9
 a9:=Tryz.isAgg9
 z9:=Tryz.sizeOf9
 v9:=Tryz.zeroValue9
 t46:=Tryz.underlying198
 a46:=Tryz.isAgg198
 z46:=Tryz.sizeOf198
 v46:=Tryz.zeroValue198
 t51:=Tryz.underlying273
 a51:=Tryz.isAgg273
 z51:=Tryz.sizeOf273
 v51:=Tryz.zeroValue273
 t59:=Tryz.underlying195
 a59:=Tryz.isAgg195
 z59:=Tryz.sizeOf195
 v59:=Tryz.zeroValue195
 t146:=Tryz.underlying292
 a146:=Tryz.isAgg292
 z146:=Tryz.sizeOf292
 v146:=Tryz.zeroValue292
 g1:=by kernel_rfl }
def Tryz.lays101_ren:Go.Shelf.Ren:=⟨fun|101=>162|208=>239|206=>291|n=>n,fun|9=>9|4=>4|3=>3|n=>n,fun|n=>n⟩
theorem Tryz.lays101 : Go.Proofs.Lays.n101 Tryz.prog Tryz.lays101_ren := {
 mixed:=by kernel_rfl
 f101:=Tryz.func162.trans (congrArg some (by kernel_rfl))
 f206:=Tryz.func291.trans (congrArg some (by kernel_rfl))
 f208:=Tryz.func239.trans (congrArg some (by kernel_rfl))
 t3:=Tryz.underlying3
 a3:=Tryz.isAgg3
 z3:=Tryz.sizeOf3
 v3:=Tryz.zeroValue3
 t4:=Tryz.underlying4
 a4:=Tryz.isAgg4
 z4:=Tryz.sizeOf4
 v4:=Tryz.zeroValue4
 t9:=Tryz.underlying9
 a9:=Tryz.isAgg9
 z9:=Tryz.sizeOf9
 v9:=Tryz.zeroValue9 }
def Tryz.lays102_ren:Go.Shelf.Ren:=⟨fun|102=>169|209=>244|207=>298|n=>n,fun|9=>9|4=>4|3=>3|n=>n,fun|n=>n⟩
theorem Tryz.lays102 : Go.Proofs.Lays.n102 Tryz.prog Tryz.lays102_ren := {
 mixed:=by kernel_rfl
 f102:=Tryz.func169.trans (congrArg some (by kernel_rfl))
 f207:=Tryz.func298.trans (congrArg some (by kernel_rfl))
 f209:=Tryz.func244.trans (congrArg some (by kernel_rfl))
 t3:=Tryz.underlying3
 a3:=Tryz.isAgg3
 z3:=Tryz.sizeOf3
 v3:=Tryz.zeroValue3
 t4:=Tryz.underlying4
 a4:=Tryz.isAgg4
 z4:=Tryz.sizeOf4
 v4:=Tryz.zeroValue4
 t9:=Tryz.underlying9
 a9:=Tryz.isAgg9
 z9:=Tryz.sizeOf9
 v9:=Tryz.zeroValue9 }
def Tryz.lays146_ren:Go.Shelf.Ren:=⟨fun|146=>80|221=>161|268=>236|138=>237|143=>238|195=>287|197=>288|218=>289|219=>290|260=>320|217=>314|225=>321|224=>322|267=>323|266=>334|314=>337|n=>n,fun|9=>9|31=>109|3=>3|4=>4|0=>0|105=>255|21=>21|5=>5|46=>198|119=>266|139=>291|138=>290|146=>292|51=>273|n=>n,fun|1=>1|3=>6|4=>7|n=>n⟩
theorem Tryz.lays146 : Go.Proofs.Lays.n146 Tryz.prog Tryz.lays146_ren := {
 mixed:=by kernel_rfl
 f138:=Tryz.func237.trans (congrArg some (by kernel_rfl))
 f143:=Tryz.func238.trans (congrArg some (by kernel_rfl))
 f146:=Tryz.func80.trans (congrArg some (by kernel_rfl))
 f195:=Tryz.func287.trans (congrArg some (by kernel_rfl))
 f197:=Tryz.func288.trans (congrArg some (by kernel_rfl))
 f217:=Tryz.func314.trans (congrArg some (by kernel_rfl))
 f218:=Tryz.func289.trans (congrArg some (by kernel_rfl))
 f219:=Tryz.func290.trans (congrArg some (by kernel_rfl))
 f221:=Tryz.func161.trans (congrArg some (by kernel_rfl))
 f224:=Tryz.func322.trans (congrArg some (by kernel_rfl))
 f225:=Tryz.func321.trans (congrArg some (by kernel_rfl))
 f260:=Tryz.func320.trans (congrArg some (by kernel_rfl))
 f266:=Tryz.func334.trans (congrArg some (by kernel_rfl))
 f267:=Tryz.func323.trans (congrArg some (by kernel_rfl))
 f268:=Tryz.func236.trans (congrArg some (by kernel_rfl))
 f314:=Tryz.func337.trans (congrArg some (by kernel_rfl))
 t0:=Tryz.underlying0
 a0:=Tryz.isAgg0
 z0:=Tryz.sizeOf0
 v0:=Tryz.zeroValue0
 t3:=Tryz.underlying3
 a3:=Tryz.isAgg3
 z3:=Tryz.sizeOf3
 v3:=Tryz.zeroValue3
 t4:=Tryz.underlying4
 a4:=Tryz.isAgg4
 z4:=Tryz.sizeOf4
 v4:=Tryz.zeroValue4
 t5:=Tryz.underlying5
 a5:=Tryz.isAgg5
 z5:=Tryz.sizeOf5
 v5:=Tryz.zeroValue5
 t9:=Tryz.underlying9
 a9:=Tryz.isAgg9
 z9:=Tryz.sizeOf9
 v9:=Tryz.zeroValue9
 t21:=Tryz.underlying21
 a21:=Tryz.isAgg21
 z21:=Tryz.sizeOf21
 v21:=Tryz.zeroValue21
 t31:=Tryz.underlying109
 a31:=Tryz.isAgg109
 z31:=Tryz.sizeOf109
 v31:=Tryz.zeroValue109
 t46:=Tryz.underlying198
 a46:=Tryz.isAgg198
 z46:=Tryz.sizeOf198
 v46:=Tryz.zeroValue198
 t51:=Tryz.underlying273
 a51:=Tryz.isAgg273
 z51:=Tryz.sizeOf273
 v51:=Tryz.zeroValue273
 t105:=Tryz.underlying255
 a105:=Tryz.isAgg255
 z105:=Tryz.sizeOf255
 v105:=Tryz.zeroValue255
 t119:=Tryz.underlying266
 a119:=Tryz.isAgg266
 z119:=Tryz.sizeOf266
 t138:=Tryz.underlying290
 a138:=Tryz.isAgg290
 z138:=Tryz.sizeOf290
 v138:=Tryz.zeroValue290
 t139:=Tryz.underlying291
 a139:=Tryz.isAgg291
 z139:=Tryz.sizeOf291
 v139:=Tryz.zeroValue291
 t146:=Tryz.underlying292
 a146:=Tryz.isAgg292
 z146:=Tryz.sizeOf292
 v146:=Tryz.zeroValue292
 g1:=by kernel_rfl
 g3:=by kernel_rfl
 g4:=by kernel_rfl }
def Tryz.lays157_ren:Go.Shelf.Ren:=⟨fun|157=>266|229=>312|199=>313|261=>333|311=>342|312=>343|n=>n,fun|9=>9|31=>109|3=>3|5=>5|4=>4|119=>266|0=>0|40=>268|152=>283|21=>21|154=>285|51=>273|141=>287|196=>303|193=>300|198=>306|49=>304|194=>301|201=>309|226=>316|46=>198|227=>317|n=>n,fun|0=>0|6=>5|n=>n⟩
theorem Tryz.lays157 : Go.Proofs.Lays.n157 Tryz.prog Tryz.lays157_ren := {
 mixed:=by kernel_rfl
 f157:=Tryz.func266.trans (congrArg some (by kernel_rfl))
 f199:=Tryz.func313.trans (congrArg some (by kernel_rfl))
 f229:=Tryz.func312.trans (congrArg some (by kernel_rfl))
 f261:=Tryz.func333.trans (congrArg some (by kernel_rfl))
 f311:=Tryz.func342.trans (congrArg some (by kernel_rfl))
 f312:=Tryz.func343.trans (congrArg some (by kernel_rfl))
 t0:=Tryz.underlying0
 a0:=Tryz.isAgg0
 z0:=Tryz.sizeOf0
 v0:=Tryz.zeroValue0
 t3:=Tryz.underlying3
 a3:=Tryz.isAgg3
 z3:=Tryz.sizeOf3
 v3:=Tryz.zeroValue3
 t4:=Tryz.underlying4
 a4:=Tryz.isAgg4
 z4:=Tryz.sizeOf4
 v4:=Tryz.zeroValue4
 t5:=Tryz.underlying5
 a5:=Tryz.isAgg5
 z5:=Tryz.sizeOf5
 v5:=Tryz.zeroValue5
 t9:=Tryz.underlying9
 a9:=Tryz.isAgg9
 z9:=Tryz.sizeOf9
 v9:=Tryz.zeroValue9
 t21:=Tryz.underlying21
 a21:=Tryz.isAgg21
 z21:=Tryz.sizeOf21
 v21:=Tryz.zeroValue21
 t31:=Tryz.underlying109
 a31:=Tryz.isAgg109
 z31:=Tryz.sizeOf109
 v31:=Tryz.zeroValue109
 t40:=Tryz.underlying268
 a40:=Tryz.isAgg268
 z40:=Tryz.sizeOf268
 v40:=Tryz.zeroValue268
 t46:=Tryz.underlying198
 a46:=Tryz.isAgg198
 z46:=Tryz.sizeOf198
 v46:=Tryz.zeroValue198
 t49:=Tryz.underlying304
 a49:=Tryz.isAgg304
 z49:=Tryz.sizeOf304
 v49:=Tryz.zeroValue304
 t51:=Tryz.underlying273
 a51:=Tryz.isAgg273
 z51:=Tryz.sizeOf273
 v51:=Tryz.zeroValue273
 t119:=Tryz.underlying266
 a119:=Tryz.isAgg266
 z119:=Tryz.sizeOf266
 t141:=Tryz.underlying287
 a141:=Tryz.isAgg287
 z141:=Tryz.sizeOf287
 v141:=Tryz.zeroValue287
 t152:=Tryz.underlying283
 a152:=Tryz.isAgg283
 z152:=Tryz.sizeOf283
 v152:=Tryz.zeroValue283
 t154:=Tryz.underlying285
 a154:=Tryz.isAgg285
 z154:=Tryz.sizeOf285
 v154:=Tryz.zeroValue285
 t193:=Tryz.underlying300
 a193:=Tryz.isAgg300
 z193:=Tryz.sizeOf300
 v193:=Tryz.zeroValue300
 t194:=Tryz.underlying301
 a194:=Tryz.isAgg301
 z194:=Tryz.sizeOf301
 v194:=Tryz.zeroValue301
 t196:=Tryz.underlying303
 a196:=Tryz.isAgg303
 z196:=Tryz.sizeOf303
 v196:=Tryz.zeroValue303
 t198:=Tryz.underlying306
 a198:=Tryz.isAgg306
 z198:=Tryz.sizeOf306
 v198:=Tryz.zeroValue306
 t201:=Tryz.underlying309
 a201:=Tryz.isAgg309
 z201:=Tryz.sizeOf309
 v201:=Tryz.zeroValue309
 t226:=Tryz.underlying316
 a226:=Tryz.isAgg316
 z226:=Tryz.sizeOf316
 v226:=Tryz.zeroValue316
 t227:=Tryz.underlying317
 a227:=Tryz.isAgg317
 z227:=Tryz.sizeOf317
 v227:=Tryz.zeroValue317
 g0:=by kernel_rfl
 g6:=by kernel_rfl }
def Tryz.lays105_ren:Go.Shelf.Ren:=⟨fun|105=>332|212=>339|99=>340|165=>143|166=>144|170=>341|169=>145|263=>344|264=>345|206=>291|240=>224|241=>225|276=>278|277=>279|n=>n,fun|9=>9|3=>3|4=>4|20=>20|0=>0|46=>198|109=>297|5=>5|72=>173|76=>177|51=>273|146=>292|53=>145|148=>314|70=>171|37=>22|75=>176|127=>224|164=>244|80=>170|n=>n,fun|n=>n⟩
theorem Tryz.lays105 : Go.Proofs.Lays.n105 Tryz.prog Tryz.lays105_ren := {
 mixed:=by kernel_rfl
 f99:=Tryz.func340.trans (congrArg some (by kernel_rfl))
 f105:=Tryz.func332.trans (congrArg some (by kernel_rfl))
 f165:=Tryz.func143.trans (congrArg some (by kernel_rfl))
 f166:=Tryz.func144.trans (congrArg some (by kernel_rfl))
 f169:=Tryz.func145.trans (congrArg some (by kernel_rfl))
 f170:=Tryz.func341.trans (congrArg some (by kernel_rfl))
 f206:=Tryz.func291.trans (congrArg some (by kernel_rfl))
 f212:=Tryz.func339.trans (congrArg some (by kernel_rfl))
 f240:=Tryz.func224.trans (congrArg some (by kernel_rfl))
 f241:=Tryz.func225.trans (congrArg some (by kernel_rfl))
 f263:=Tryz.func344.trans (congrArg some (by kernel_rfl))
 f264:=Tryz.func345.trans (congrArg some (by kernel_rfl))
 f276:=Tryz.func278.trans (congrArg some (by kernel_rfl))
 f277:=Tryz.func279.trans (congrArg some (by kernel_rfl))
 t0:=Tryz.underlying0
 a0:=Tryz.isAgg0
 z0:=Tryz.sizeOf0
 v0:=Tryz.zeroValue0
 t3:=Tryz.underlying3
 a3:=Tryz.isAgg3
 z3:=Tryz.sizeOf3
 v3:=Tryz.zeroValue3
 t4:=Tryz.underlying4
 a4:=Tryz.isAgg4
 z4:=Tryz.sizeOf4
 v4:=Tryz.zeroValue4
 t5:=Tryz.underlying5
 a5:=Tryz.isAgg5
 z5:=Tryz.sizeOf5
 v5:=Tryz.zeroValue5
 t9:=Tryz.underlying9
 a9:=Tryz.isAgg9
 z9:=Tryz.sizeOf9
 v9:=Tryz.zeroValue9
 t20:=Tryz.underlying20
 a20:=Tryz.isAgg20
 z20:=Tryz.sizeOf20
 v20:=Tryz.zeroValue20
 t37:=Tryz.underlying22
 a37:=Tryz.isAgg22
 z37:=Tryz.sizeOf22
 v37:=Tryz.zeroValue22
 t46:=Tryz.underlying198
 a46:=Tryz.isAgg198
 z46:=Tryz.sizeOf198
 v46:=Tryz.zeroValue198
 t51:=Tryz.underlying273
 a51:=Tryz.isAgg273
 z51:=Tryz.sizeOf273
 v51:=Tryz.zeroValue273
 t53:=Tryz.underlying145
 a53:=Tryz.isAgg145
 z53:=Tryz.sizeOf145
 v53:=Tryz.zeroValue145
 t70:=Tryz.underlying171
 a70:=Tryz.isAgg171
 z70:=Tryz.sizeOf171
 v70:=Tryz.zeroValue171
 t72:=Tryz.underlying173
 a72:=Tryz.isAgg173
 z72:=Tryz.sizeOf173
 v72:=Tryz.zeroValue173
 t75:=Tryz.underlying176
 a75:=Tryz.isAgg176
 z75:=Tryz.sizeOf176
 v75:=Tryz.zeroValue176
 t76:=Tryz.underlying177
 a76:=Tryz.isAgg177
 z76:=Tryz.sizeOf177
 v76:=Tryz.zeroValue177
 t109:=Tryz.underlying297
 a109:=Tryz.isAgg297
 z109:=Tryz.sizeOf297
 v109:=Tryz.zeroValue297
 t127:=Tryz.underlying224
 a127:=Tryz.isAgg224
 z127:=Tryz.sizeOf224
 v127:=Tryz.zeroValue224
 t146:=Tryz.underlying292
 a146:=Tryz.isAgg292
 z146:=Tryz.sizeOf292
 v146:=Tryz.zeroValue292
 t148:=Tryz.underlying314
 a148:=Tryz.isAgg314
 z148:=Tryz.sizeOf314
 v148:=Tryz.zeroValue314
 t164:=Tryz.underlying244
 a164:=Tryz.isAgg244
 z164:=Tryz.sizeOf244
 v164:=Tryz.zeroValue244 }
theorem Tryz.Builder_Extra_105 : Builder.Extra Tryz.prog Tryz.lays105_ren := {
 sizeBuilder:=by kernel_rfl
 liesBuilder:=by kernel_rfl
 t5:=Tryz.underlying5
 a5:=Tryz.isAgg5
 z5:=Tryz.sizeOf5
 v5:=Tryz.zeroValue5
 infoByte:=by kernel_rfl
 cellsByte:=by kernel_rfl
 sizeByte:=by kernel_rfl
 neB5:=by decide }
end Go.Proofs
namespace Go.Ab
open Go Go.Proofs
def zxe (a0:(List UInt8)) (a1:Int):Int:=Go.Lib.indexByte a0 a1.toNat.toUInt8
theorem y86 (a0:(List UInt8)) (a1:Int)  : Den Tryz.prog 267 [.str a0,.int .u8 a1] (.int .i64 (zxe a0 a1)):=by
 refine Den.plain ⟨_,Tryz.func267,rfl,rfl⟩ (by simp[NoOwnL,NoOwn]) ?_;intro w M vs hI hr;simp only[RepL]at hr;obtain⟨u0,us0,f0,g0,rfl,h0e,h0,u1,us1,f1,g1,rfl,h1e,h1,rfl,_⟩:=hr;have e0:=h0.val_str;have e1:=h1.val_int;subst e0 e1;refine(Any.strings_IndexByte Tryz.lays137 ⟨a0.toArray⟩ a1 w).mono ?_;rintro e w' ⟨rfl,rfl⟩
 exact⟨_,rfl,Grow.refl _,fun M'=>ykb _ _⟩
def D_zxe : DF
 | [x0,x1]=>some (.int .i64 (zxe (rdS x0) (rdI x1)),false,[wS x0,wI .u8 x1])
 | _=>none
theorem yt0:OkD Tryz.prog 267 D_zxe:=by
 intro xs r z ob h ho;unfold D_zxe at h;split at h
 ·simp only[Option.some.injEq,Prod.mk.injEq]at h
  obtain⟨rfl,rfl,rfl⟩:=h;obtain⟨h0,h1,_⟩:=ho;exact Den.sim (y86 _ _ ) (yv (yfb h0).1 <| yv (yyf h1).1 <| trivial) (y0 (yfb h0).2 <| y0 (yyf h1).2 <| rfl) rfl
 ·cases h
end Go.Ab
namespace Go.Ab
open Go
def yhd:List (List UInt8):=[[46,45],[45,46,46,46],[45,46,45,46],[45,46,46],[46],[46,46,45,46],[45,45,46],[46,46,46,46],[46,46],[46,45,45,45],[45,46,45],[46,45,46,46],[45,45],[45,46],[45,45,45],[46,45,45,46],[45,45,46,45],[46,45,46],[46,46,46],[45],[46,46,45],[46,46,46,45],[46,45,45],[45,46,46,45],[45,46,45,45],[45,45,46,46]]
theorem yli:∀ x∈yhd,1<=x.length/\x.length<=4/\∀ c∈x,c=45\/c=46:=by decide
theorem yuk (n:Nat):(yhd.getD n default).length<=4:=by
 rw[List.getD_eq_getElem?_getD]
 cases h:yhd[n]? with
 | none=>show(0:Nat)<=4;omega
 | some x=>exact(yli x (List.mem_of_getElem? h)).2.1
theorem ya3 (n:Nat):(([[46,45],[45,46,46,46],[45,46,45,46],[45,46,46],[46],[46,46,45,46],[45,45,46],[46,46,46,46],[46,46],[46,45,45,45],[45,46,45],[46,45,46,46],[45,45],[45,46],[45,45,45],[46,45,45,46],[45,45,46,45],[46,45,46],[46,46,46],[45],[46,46,45],[46,46,46,45],[46,45,45],[45,46,46,45],[45,46,45,45],[45,45,46,46]]:List (List UInt8)).getD n default).length<=4:=yuk n
theorem yfi (a:List UInt8) (c:UInt8) (h:a.length=1):Op.bytesLess a [c]=decide ((a.getD 0 0).toNat<c.toNat):=by
 obtain⟨x,rfl⟩:=List.length_eq_one_iff.1 h;simp only[Op.bytesLess,Bool.and_false,Bool.or_false,List.getD_cons_zero];rfl
theorem y3x (a:List UInt8) (c:UInt8) (h:a.length=1):(a == [c])=decide ((a.getD 0 0).toNat=c.toNat):=by
 obtain⟨x,rfl⟩:=List.length_eq_one_iff.1 h;apply Bool.eq_iff_iff.2;simp[UInt8.toNat_inj]
theorem yql (n:Int) (h1:0<=n) (h2:n<256):IntKind.wrap .u8 n=n:=by
 have:IntKind.wrap .u8 n=n % 256:=rfl;rw[this];omega
theorem yp1 (a:List UInt8) (h:((a.length:Int)=1/\Op.bytesLess a [65]=false)/\(Op.bytesLess a [90]=true\/(a == [90])=true)) :
  0<=IntKind.wrap .u8 (((a.getD 0 0).toNat:Int)-65)/\IntKind.wrap .u8 (((a.getD 0 0).toNat:Int)-65)<26/\0<=IntKind.wrap .u8 (((a.getD 0 0).toNat:Int) + -65)/\IntKind.wrap .u8 (((a.getD 0 0).toNat:Int) + -65)<26:=by
 have h1:a.length=1:=by omega
 rw[yfi a 65 h1,yfi a 90 h1,y3x a 90 h1]at h;have e1:(65:UInt8).toNat=65:=rfl;have e2:(90:UInt8).toNat=90:=rfl;rw[e1,e2]at h;simp only[decide_eq_true_eq,decide_eq_false_iff_not]at h;have hx:65<=(a.getD 0 0).toNat/\(a.getD 0 0).toNat<=90:=by omega
 rw[yql _ (by omega) (by omega),yql _ (by omega) (by omega)];omega
theorem ybd {ρ α : Type} (b : Nat -> List α -> Except ρ (List α)) (f : Nat -> List α) : ∀ (n i : Nat) (s : List α), (∀ j s, i <= j -> j < i + n -> b j s = .ok (s ++ f j)) -> yd b n i s = .ok (s ++ (List.range' i n).flatMap f)
 | 0,i,s,_=>by simp[yd]
 | n+1,i,s,h=>by
  simp only[yd];rw[h i s (Nat.le_refl _) (by omega)];simp only;rw[ybd b f n (i+1) _ (fun j s h1 h2=>h j s (by omega) (by omega)),List.range'_succ,List.flatMap_cons,List.append_assoc]
theorem yhx {ρ σ:Type} {b b':Nat->σ->Except ρ σ} (n i:Nat) (s:σ) (h:∀ j u,i<=j->j<i+n->b j u=b' j u):yd b n i s=yd b' n i s:=loopR_congr0 n i s h
where
 loopR_congr0 {ρ σ:Type} {b b':Nat->σ->Except ρ σ}:∀ (n i:Nat) (s:σ),(∀ j u,i<=j->j<i+n->b j u=b' j u)->yd b n i s=yd b' n i s
 | 0,i,s,_=>rfl
 | n+1,i,s,h=>by
  simp only[yd];rw[h i s (Nat.le_refl _) (by omega)]
  cases b' i s with
  | error r=>rfl
  | ok t=>exact loopR_congr0 n (i+1) t (fun j u h1 h2=>h j u (by omega) (by omega))
theorem ysf {α β:Type} (l:List α) (d:α) (f:α->β):(List.range' 0 l.length).flatMap (fun j=>[f (l.getD j d)])=l.map f:=by
 rw[<- List.map_eq_flatMap];apply List.ext_getElem
 ·simp
 ·intro i h1 h2
  simp only[List.length_map]at h2;simp[List.getD_eq_getElem?_getD,h2]
def yub (l:List UInt8):Prop:=∀ b∈l,48<=b.toNat/\b.toNat<=57
instance (l:List UInt8):Decidable (yub l):=by unfold yub;infer_instance
def digV (n:Nat) (l:List UInt8):Nat:=l.foldl (fun k b=>10 * k+(b.toNat-48)) n
theorem y5c (n:Nat):digV n []=n:=List.foldl_nil
theorem y7 (n:Nat) (c:UInt8) (l:List UInt8):digV n (c::l)=digV (10 * n+(c.toNat-48)) l:=List.foldl_cons ..
theorem yhq (b:UInt8) (l:List UInt8) (n:Nat):digV n (l++[b])=10 * digV n l+(b.toNat-48):=by
 unfold digV;rw[List.foldl_append,List.foldl_cons,List.foldl_nil]
theorem ydt (l:List UInt8):∀ (n:Nat),yub l->digV n l<(n+1) * 10 ^ l.length:=by
 induction l with
 | nil=>intro n _;rw[y5c,List.length_nil,Nat.pow_zero];omega
 | cons c l ih=>
  intro n h;have hc:=h c (by simp);have h1:=ih (10 * n+(c.toNat-48)) (fun b hb=>h b (by simp[hb]));rw[y7,List.length_cons,Nat.pow_succ];have h2:(10 * n+(c.toNat-48)+1) * 10 ^ l.length<=((n+1) * 10) * 10 ^ l.length:=Nat.mul_le_mul_right _ (by omega);have h3:((n+1) * 10) * 10 ^ l.length=(n+1) * (10 ^ l.length * 10):=by rw[Nat.mul_assoc,Nat.mul_comm 10]
  omega
theorem y4n (l:List UInt8):∀ (n:Nat),n * 10 ^ l.length<=digV n l:=by
 induction l with
 | nil=>intro n;rw[y5c,List.length_nil,Nat.pow_zero];omega
 | cons c l ih=>
  intro n;have h1:=ih (10 * n+(c.toNat-48));rw[y7,List.length_cons,Nat.pow_succ];have h2:(n * 10) * 10 ^ l.length<=(10 * n+(c.toNat-48)) * 10 ^ l.length:=Nat.mul_le_mul_right _ (by omega);have h3:(n * 10) * 10 ^ l.length=n * (10 ^ l.length * 10):=by rw[Nat.mul_assoc,Nat.mul_comm 10]
  omega
theorem y2r {b:UInt8} (h1:48<=b.toNat) (h2:b.toNat<=57):UInt8.ofNat (48+(b.toNat-48))=b:=by
 apply UInt8.toNat_inj.1;rw[UInt8.toNat_ofNat'];omega
theorem ygb (m:Nat) (h:¬ m<10):Lib.decDigits m=Lib.decDigits (m / 10)++[UInt8.ofNat (48+m % 10)]:=by
 rw[Lib.decDigits,dif_neg h]
theorem ysl:∀ (n:Nat) (l:List UInt8),l.length=n->yub l->l≠[]->(l.getD 0 0≠48\/l.length=1)->Lib.decDigits (digV 0 l)=l:=by
 intro n
 induction n using Nat.strongRecOn with
 | ind n ih=>
  intro l hl hd hne hh;rcases List.eq_nil_or_concat l with rfl|⟨r,b,he⟩
  ·exact absurd rfl hne
  ·rw[List.concat_eq_append]at he
   subst he;have hb:=hd b (by simp);have hdr:yub r:=fun c hc=>hd c (by simp[hc])
   rw[yhq];by_cases hr:r=[]
   ·subst hr
    simp only[y5c,Nat.mul_zero,Nat.zero_add,List.nil_append];rw[Lib.decDigits_one (by omega),y2r hb.1 hb.2]
   ·obtain⟨c,t,rfl⟩:=List.exists_cons_of_ne_nil hr
    have hc:=hdr c (by simp)
    have hne48:c≠48:=by
     rcases hh with h|h
     ·simpa using h
     ·simp at h
    have hc1:49<=c.toNat:=by
     have:c.toNat≠48:=fun e=>hne48 (UInt8.toNat_inj.1 (by rw[e];rfl))
     omega
    have hpos:1<=digV 0 (c::t):=by
     have h1:=y4n t (10 * 0+(c.toNat-48));have h2:1<=10 ^ t.length:=Nat.one_le_pow _ _ (by decide);have h3:1 * 1<=(10 * 0+(c.toNat-48)) * 10 ^ t.length:=Nat.mul_le_mul (by omega) h2;rw[y7];omega
    have hI:=ih (c::t).length (by simp at hl ⊢;omega) (c::t) rfl hdr (by simp) (.inl (by simpa using hne48));rw[ygb _ (by omega),show(10 * digV 0 (c::t)+(b.toNat-48)) / 10=digV 0 (c::t)by omega,hI,show(10 * digV 0 (c::t)+(b.toNat-48)) % 10=b.toNat-48 by omega,y2r hb.1 hb.2]
theorem ycn (d:Nat) (h:d<10):(UInt8.ofNat (48+d)).toNat=48+d:=by
 rw[UInt8.toNat_ofNat'];omega
theorem y6 (m:Nat):yub (Lib.decDigits m)/\digV 0 (Lib.decDigits m)=m/\Lib.decDigits m≠[]/\(1<=m->(Lib.decDigits m).getD 0 0≠48):=by
 induction m using Nat.strongRecOn with
 | ind m ih=>
  by_cases h:m<10
  ·rw[Lib.decDigits_one h]
   refine⟨fun b hb => ?_,?_,by simp,fun h1 => ?_⟩
   ·simp only[List.mem_singleton]at hb
    subst hb;rw[ycn m h];omega
   ·rw[y7,y5c,ycn m h];omega
   ·intro e
    have e2:(UInt8.ofNat (48+m)).toNat=48:=by
     have:(UInt8.ofNat (48+m))=48:=by simpa using e
     rw[this];rfl
    rw[ycn m h]at e2;omega
  ·obtain⟨i1,i2,i3,i4⟩:=ih (m / 10) (by omega)
   rw[ygb m h];refine⟨fun b hb => ?_,?_,by simp,fun _ => ?_⟩
   ·rcases List.mem_append.1 hb with hb|hb
    ·exact i1 b hb
    ·simp only[List.mem_singleton]at hb
     subst hb;rw[ycn _ (by omega)];omega
   ·rw[yhq,i2,ycn _ (by omega)];omega
   ·obtain⟨c,t,e⟩:=List.exists_cons_of_ne_nil i3
    have:=i4 (by omega);rw[e]at this ⊢;simpa using this
theorem ypb (m:Nat):(Lib.decDigits m).length<=18↔m<1000000000000000000:=by
 obtain⟨h1,h2,h3,h4⟩:=y6 m;constructor
 ·intro h
  have:=ydt (Lib.decDigits m) 0 h1;rw[h2]at this;have h5:10 ^ (Lib.decDigits m).length<=10 ^ 18:=Nat.pow_le_pow_right (by decide) h;have h6:(10:Nat) ^ 18=1000000000000000000:=by decide
  omega
 ·intro h
  by_cases hl:(Lib.decDigits m).length<=18
  ·exact hl
  ·exfalso
   obtain⟨c,t,e⟩:=List.exists_cons_of_ne_nil h3
   have hm:1<=m:=by
    by_cases h0:m=0
    ·subst h0;rw[Lib.decDigits_one (by decide)]at hl;simp at hl
    ·omega
   have h48:=h4 hm;rw[e]at h48 h1 h2 hl;have hc:=h1 c (by simp)
   have hc1:49<=c.toNat:=by
    have:c.toNat≠48:=fun e2=>h48 (by
     have:c=48:=UInt8.toNat_inj.1 (by rw[e2];rfl)
     simp[this])
    omega
   have h5:=y4n t (10 * 0+(c.toNat-48));have h6:digV 0 (c::t)=digV (10 * 0+(c.toNat-48)) t:=y7 ..;have h7:10 ^ 18<=10 ^ t.length:=Nat.pow_le_pow_right (by decide) (by simp at hl;omega);have h8:(10:Nat) ^ 18=1000000000000000000:=by decide
   have h9:1 * 10 ^ t.length<=(10 * 0+(c.toNat-48)) * 10 ^ t.length:=Nat.mul_le_mul_right _ (by omega);omega
theorem yjm (M:Nat) (l:List UInt8):∀ (n:Nat),yub l->digV n l<=M->M<18446744073709551616->Lib.parseUintM M n l=.ok (digV n l):=by
 induction l with
 | nil=>intro n _ _ _;rw[y5c,Lib.parseUintM]
 | cons c l ih=>
  intro n h hM h64;have hc:=h c (by simp);have h1:=y4n l (10 * n+(c.toNat-48));have h2:1<=10 ^ l.length:=Nat.one_le_pow _ _ (by decide);have h3:(10 * n+(c.toNat-48)) * 1<=(10 * n+(c.toNat-48)) * 10 ^ l.length:=Nat.mul_le_mul_left _ h2;rw[y7]at hM ⊢;rw[Lib.parseUintM,if_pos hc,if_neg (by omega),if_neg (by omega),Nat.mul_comm n 10];exact ih _ (fun b hb=>h b (by simp[hb])) hM h64
end Go.Ab
namespace Go.Ab
open Go Go.Proofs
theorem y9m (w:World) (k:Nat) (os:Array Obj):Grow w (Go.Sort.grow (w.drewN k) os):=by
 refine⟨rfl,rfl,rfl,?_,fun i hi => ?_⟩
 ·show w.heap.size<=(w.heap++os).size
  simp
 ·show(w.heap++os)[i]? = w.heap[i]?
  rw[Array.getElem?_append_left hi]
open Go.RowKit in
theorem y9f {w w':World} (h:Below w.heap.size w w'):Grow w w':=⟨h.os,h.tape,h.output,h.size,fun k hk=>h.block k hk⟩
theorem ymd (u:Nat):(Go.Lib.decDigits u).length<=u / 2+1:=by
 induction u using Nat.strongRecOn with
 | ind u ih=>
  rw[Go.Lib.decDigits];split
  ·simp
  ·have:=ih (u / 10) (by omega)
   simp only[List.length_append,List.length_cons,List.length_nil];omega
theorem yr3 {n:Int} (h1 : -9223372036854775808<=n) (h2:n<=9223372036854775807):(Go.Lib.itoa n).length<=maxLen:=by
 unfold Go.Lib.itoa maxLen;split
 ·have:=ymd n.natAbs
  simp only[List.length_cons];omega
 ·have:=ymd n.toNat
  omega
theorem yam (l:List UInt8) (c:Nat):(Go.Lib.repeatL l c).length=l.length * c:=by
 rw[Go.Lib.repeatL_length,Nat.mul_comm]
end Go.Ab
namespace Go.Ab
open Go Go.Proofs Go.RowKit
def yzb (s:List UInt8):Int×Bool:=
 if 18 < (Go.Lib.trimPrefix s [45]).length then (0, false) else match Go.Lib.parseIntB 64 s with
  | .ok v=>if Go.Lib.itoa v=s then(v,true)else(0,false)
  | _=>(0,false)
theorem Grow.trans' {a b c:World} (h1:Grow a b) (h2:Grow b c):Grow a c:=
 ⟨h2.os.trans h1.os,h2.tape.trans h1.tape,h2.output.trans h1.output,Nat.le_trans h1.size h2.size,fun k hk=>(h2.block k (Nat.lt_of_lt_of_le hk h1.size)).trans (h1.block k hk)⟩
theorem Grow.refl' (a:World):Grow a a:=⟨rfl,rfl,rfl,Nat.le_refl _,fun _ _=>rfl⟩
theorem yu1 {w w':World} (h:y0q w) (hg:Grow w w'):y0q w':=
 inv0.stable w w' h hg.os fun b hb=>hg.block b (inv0.inside w h b hb)
theorem ywx (s:ByteArray) (w:World):Calls Tryz.prog 162 #[.string s,.string ⟨#[45]⟩] w fun e w'=>e=.returned (.string ⟨(Go.Lib.trimPrefix s.data.toList [45]).toArray⟩)/\w'=w:=
 Any.strings_TrimPrefix Tryz.lays101 s ⟨#[45]⟩ w
theorem ynw (w:World) (e:TypeId) (t:ByteArray):Grow w (Go.Lib.bytesWorld w e t):=by
 unfold Go.Lib.bytesWorld World.freeze;rw[if_neg (by decide)]
 have hs:(w.drew.alloc (.cells (Go.Lib.bytesCells w e t) e)).heap.size=w.heap.size+1:=by
  show(w.heap.push _).size=_;simp
 refine⟨rfl,rfl,rfl,?_,fun k hk => ?_⟩
 ·show w.heap.size<=(Array.modify _ _ _).size
  rw[Array.size_modify,hs];omega
 ·show(Array.modify _ _ _)[k]? = _
  rw[Array.getElem?_modify,if_neg (by show ¬ w.heap.size=k;omega)];show(w.heap.push _)[k]? = _;rw[Array.getElem?_push,if_neg (by omega)]
theorem ykt (s:ByteArray) (w:World) (hs:s.size<=1048576) (hw:y0q w):Calls Tryz.prog 163 #[.string s,.int .i64 10,.int .i64 64] w fun e w'=>
  Grow w w'/\((∃ v,Go.Lib.parseIntB 64 s.data.toList=.ok v/\e=.returned (.tuple #[.int .i64 v,.nilIface]))\/((∀ v,Go.Lib.parseIntB 64 s.data.toList≠.ok v)/\∃ v t p,e=.returned (.tuple #[.int .i64 v,.iface t p]))):=by
 cases h:Go.Lib.parseIntB 64 s.data.toList with
 | ok v=>
  refine(Any.strconv_ParseInt_10_at64_ok Tryz.laysC174 s (by omega) v h w).mono ?_;rintro e w' ⟨rfl,hw'⟩
  refine⟨?_,.inl ⟨v,rfl,rfl⟩⟩;rcases hw' with rfl|⟨t,rfl⟩
  ·exact Grow.refl' _
  ·exact ynw _ _ _
 | range=>
  obtain⟨te,pe,hc⟩:=hw.2.2.1;refine(Any.strconv_ParseInt_10_at64_range Tryz.laysC174 s (by omega) h _ w hc (.inr ⟨te,pe,rfl⟩)).mono ?_;rintro e w' ⟨N,rfl,_,_,hB⟩
  exact⟨y9f hB,.inr ⟨by simp,_,_,_,rfl⟩⟩
 | _ =>
  obtain⟨te,pe,hc⟩:=hw.2.1;refine(Any.strconv_ParseInt_10_at64_syntax Tryz.laysC174 s (by omega) h _ w hc (.inr ⟨te,pe,rfl⟩)).mono ?_;rintro e w' ⟨N,rfl,_,_,hB⟩
  exact⟨y9f hB,.inr ⟨by simp,_,_,_,rfl⟩⟩
theorem ygp (n:Int) (w:World) (h0 : -9223372036854775808<=n) (h1:n<=9223372036854775807) (hw:y0q w):Calls Tryz.prog 146 #[.int .i64 n,.int .i64 10] w fun e w'=>
  e=.returned (.string ⟨(Go.Lib.itoa n).toArray⟩)/\Grow w w':=by
 refine(Any.strconv_FormatInt_10 Tryz.laysM173 n h0 h1 w hw.1.1).mono ?_;rintro e w' ⟨rfl,k,os,rfl⟩
 exact⟨rfl,y9m w k os⟩
theorem ymo (n:Int) (w:World) (h0 : -9223372036854775808<=n) (h1:n<=9223372036854775807) (hw:y0q w):Calls Tryz.prog 63 #[.int .i64 n] w fun e w'=>
  e=.returned (.string ⟨(Go.Lib.itoa n).toArray⟩)/\Grow w w':=by
 go_enter Tryz.func63,Tryz.ntmps63
 go_wp2_with (go_at_call 146;refine(ygp _ _ h0 h1 hw).mono ?_;rintro e w' ⟨rfl,hg⟩)
 go_ret
 exact⟨rfl,hg⟩
set_option maxHeartbeats 1000000 in
theorem y6r (s:ByteArray) (w:World) (hs:s.size<=1048576) (hw:y0q w):Calls Tryz.prog 81 #[.string s] w fun e w'=>
  Grow w w'/\e=.returned (.tuple #[.int .i64 (yzb s.data.toList).1,.bool (yzb s.data.toList).2]):=by
 go_enter Tryz.func81,Tryz.ntmps81
 go_wp2_with (first
  | (go_at_call 162;refine(ywx _ _).mono ?_;rintro e w' ⟨rfl,rfl⟩)
  | (go_at_call 163;refine(ykt _ _ hs hw).mono ?_;rintro e w' ⟨hg,⟨v,hv,rfl⟩|⟨hv,v,t,p,rfl⟩⟩)
  | (go_at_call 63;have hb:=Go.Lib.parseIntB_bounds hv;refine(ymo _ _ (by omega) (by omega) (yu1 hw hg)).mono ?_;rintro e w'' ⟨rfl,hg2⟩))
 ·go_ret2
  rename_i h
  have h:18<(Go.Lib.trimPrefix s.data.toList [45]).length:=by omega
  refine⟨Grow.refl' _,?_⟩;unfold yzb;rw[if_pos h];rfl
 ·go_ret2
  rename_i hne
  rw[ByteArray.toList_eq]at hne;have hne:Go.Lib.itoa v≠s.data.toList:=by simpa using hne
  refine⟨Grow.trans' hg hg2,?_⟩;unfold yzb;rw[if_neg (by omega),hv];simp only;rw[if_neg hne];rfl
 ·go_ret2
  rename_i hne
  rw[ByteArray.toList_eq]at hne;have hne:Go.Lib.itoa v=s.data.toList:=by simpa using hne
  refine⟨Grow.trans' hg hg2,?_⟩;unfold yzb;rw[if_neg (by omega),hv];simp only;rw[if_pos hne];rfl
 ·go_ret2
  refine⟨hg,?_⟩;unfold yzb;rw[if_neg (by omega)]
  cases hp:Go.Lib.parseIntB 64 s.data.toList with
  | ok v=>exact absurd hp (hv v)
  | _=>rfl
theorem ylt (a0:List UInt8) (hp0:a0.length<=1048576):Den Tryz.prog 81 [.str a0] (.tup [.int .i64 (yzb a0).1,.bool (yzb a0).2]):=by
 refine Den.plain ⟨_,Tryz.func81,rfl,rfl⟩ (by simp[NoOwnL,NoOwn]) ?_;intro w M vs hI hr;simp only[RepL]at hr;obtain⟨u0,us0,f0,g0,rfl,h0e,h0,rfl,_⟩:=hr;have e0:=h0.val_str;subst e0;refine(y6r ⟨a0.toArray⟩ w (by show a0.length<=_;omega) hI).mono ?_;rintro e w' ⟨hg,rfl⟩
 refine⟨_,rfl,hg,fun M' => ?_⟩;simp only[Rep];exact⟨_,rfl,by simp only[RepL];exact⟨_,[_],[],[],rfl,rfl,ykb _ _,_,[],[],[],rfl,rfl,ygc _,rfl,rfl⟩⟩
end Go.Ab
namespace Go.Ab
open Go Go.Proofs
def zog (a0:Int) (a1:Int):(List UInt8):=Go.Lib.itoa a0
theorem y95 (a0:Int) (a1:Int) (hp0:a1=10) (hp1 : -9223372036854775808<=a0) (hp2:a0<=9223372036854775807):Den Tryz.prog 146 [.int .i64 a0,.int .i64 a1] (.str (zog a0 a1)):=by
 subst hp0;refine Den.plain ⟨_,Tryz.func146,rfl,rfl⟩ (by simp[NoOwnL,NoOwn]) ?_;intro w M vs hI hr;simp only[RepL]at hr;obtain⟨u0,us0,f0,g0,rfl,h0e,h0,u1,us1,f1,g1,rfl,h1e,h1,rfl,_⟩:=hr;have e0:=h0.val_int;have e1:=h1.val_int;subst e0 e1;refine(Any.strconv_FormatInt_10 Tryz.laysM173 a0 hp1 hp2 w hI.1.1).mono ?_;rintro e w' ⟨rfl,k,os,rfl⟩
 exact⟨_,rfl,y9m w k os,fun M'=>ysb _ (yr3 hp1 hp2)⟩
def D_zog : DF
 | [x0,x1]=>some (.str (zog (rdI x0) (rdI x1)),false,[wI .i64 x0,wI .i64 x1,(rdI x1)=10,-9223372036854775808<=(rdI x0),(rdI x0)<=9223372036854775807])
 | _=>none
theorem yv3:OkD Tryz.prog 146 D_zog:=by
 intro xs r z ob h ho;unfold D_zog at h;split at h
 ·simp only[Option.some.injEq,Prod.mk.injEq]at h
  obtain⟨rfl,rfl,rfl⟩:=h;obtain⟨h0,h1,hp0,hp1,hp2,_⟩:=ho;exact Den.sim (y95 _ _ hp0 hp1 hp2) (yv (yyf h0).1 <| yv (yyf h1).1 <| trivial) (y0 (yyf h0).2 <| y0 (yyf h1).2 <| rfl) rfl
 ·cases h
end Go.Ab
namespace Go.Ab
open Go
theorem y5j (s:List Int) (a b:Int) (i:Nat) (hi:i<s.length+2):(bif i.blt s.length then[AV.int .i64 (s.getD i default)]else borrowL (elt [[AV.int .i64 a],[AV.int .i64 b]] (i-s.length)))=[AV.int .i64 ((s++[a,b]).getD i default)]:=by
 by_cases h:i<s.length
 ·have:i.blt s.length=true:=by rw[Nat.blt_eq];exact h
  rw[this];simp[List.getD_eq_getElem?_getD,List.getElem?_append_left h]
 ·have:i.blt s.length=false:=by rw[<- Bool.not_eq_true,Nat.blt_eq];exact h
  rw[this];rcases(show i=s.length\/i=s.length+1 by omega)with h1|h1
  ·subst h1
   simp[elt,borrowL,borrow,List.getD_eq_getElem?_getD]
  ·subst h1
   simp[elt,borrowL,borrow,List.getD_eq_getElem?_getD]
theorem y2e (s:List Int) (a:Int) (i:Nat) (hi:i<s.length+1):(bif i.blt s.length then[AV.int .i64 (s.getD i default)]else borrowL (elt [[AV.int .i64 a]] (i-s.length)))=[AV.int .i64 ((s++[a]).getD i default)]:=by
 by_cases h:i<s.length
 ·have:i.blt s.length=true:=by rw[Nat.blt_eq];exact h
  rw[this];simp[List.getD_eq_getElem?_getD,List.getElem?_append_left h]
 ·have:i.blt s.length=false:=by rw[<- Bool.not_eq_true,Nat.blt_eq];exact h
  rw[this];have h1:i=s.length:=by omega
  subst h1;simp[elt,borrowL,borrow,List.getD_eq_getElem?_getD]
theorem ynp (s:List Int) (a b:Int) (i:Nat) (hi:i<s.length+1+1):(bif i.blt (s.length+1)then bif i.blt s.length then[AV.int .i64 (s.getD i default)]else borrowL (elt [[AV.int .i64 a]] (i-s.length))else borrowL (elt [[AV.int .i64 b]] (i-(s.length+1))))=[AV.int .i64 ((s++[a]++[b]).getD i default)]:=by
 by_cases h:i<s.length+1
 ·have:i.blt (s.length+1)=true:=by rw[Nat.blt_eq];exact h
  rw[this,cond_true];refine(y2e s a i h).trans ?_;rw[List.getD_eq_getElem?_getD,List.getD_eq_getElem?_getD,List.getElem?_append_left (l₁:=s++[a]) (l₂:=[b]) (by simpa using h)]
 ·have:i.blt (s.length+1)=false:=by rw[<- Bool.not_eq_true,Nat.blt_eq];exact h
  rw[this];have h1:i=s.length+1:=by omega
  subst h1;simp[elt,borrowL,borrow,List.getD_eq_getElem?_getD]
theorem y5p (s:List Int) (a b:Int) (i:Nat) (hi:i<s.length+2):(i.blt s.length || pureL (borrowL (elt [[AV.int .i64 a],[AV.int .i64 b]] (i-s.length))))=true:=by
 by_cases h:i<s.length
 ·have:i.blt s.length=true:=by rw[Nat.blt_eq];exact h
  rw[this];rfl
 ·rcases(show i-s.length=0\/i-s.length=1 by omega)with h1|h1<;>rw[h1]<;>simp[elt,borrowL,borrow,pureL,pureV]
end Go.Ab
