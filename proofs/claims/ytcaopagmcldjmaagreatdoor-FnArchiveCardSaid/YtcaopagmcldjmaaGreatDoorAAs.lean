/- A part of a proof: walks of functions and lemmas of our own. No conditions. -/
import Derived.Test.YtcaopagmcldjmaaGreatDoorAAl
import Derived.Test.YtcaopagmcldjmaaGreatDoorAAn
import Derived.Test.YtcaopagmcldjmaaGreatDoorAAo
import Derived.Test.YtcaopagmcldjmaaGreatDoorAAi
import Derived.Test.YtcaopagmcldjmaaGreatDoorAAq
import Derived.Test.YtcaopagmcldjmaaGreatDoorAAr
import Derived.Test.YtcaopagmcldjmaaGreatDoorAAp
set_option linter.unusedSectionVars false
set_option linter.unusedVariables false
set_option linter.unusedSimpArgs false
set_option maxHeartbeats 1000000
namespace Go.Ab
open Go Go.Proofs
def y3q (a0:(List Sector)) (i1:Nat) (s1:List UInt8) (i2:Nat) (s2:List UInt8):Except ((List UInt8)) (List UInt8):=
 (bif ((((a0.getD i2 default).Color) == (([87,82,71,89].take ((IntKind.wrap .i64 ((i1:Int)+1)).toNat)).drop i1)) && (!(zbc s2 (([87,82,71,89].take ((IntKind.wrap .i64 ((i1:Int)+1)).toNat)).drop i1))))then .ok (s2++(([87,82,71,89].take ((IntKind.wrap .i64 ((i1:Int)+1)).toNat)).drop i1))else .ok s2)
def y9k (a0:(List Sector)) (i1:Nat) (s1:List UInt8):Except ((List UInt8)) (List UInt8):=
 (match yf (y3q a0 i1 s1) (a0.length-0) 0 s1 with|.error e=>.error e|.ok s2=>.ok s2)
def zad (a0:(List Sector)):(List UInt8):=
 (match yf (y9k a0) ([87,82,71,89].length-0) 0 []with|.error e=>e|.ok s1=>s1)
namespace N99
theorem DD:DOk Tryz.prog (Go.Ab.DD [(145,dP D_zbc)]):=ya y0u.e <| yd _
theorem dn:type_of% (@D_zbc.eq_1):=by and_intros<;>intros<;>rfl
theorem o0 {p:Prop} (h:p:=by(first|(have h4:=hq4 i1;have h1:=hW1;have h2:=hW2;and_intros<;>first|omega|exact yzt (by omega)));first|done|fail):p:=h
theorem den (a0:(List Sector)) (hb0:a0.length<1099511627776) (hb1:∀ v∈a0,bdSector v):Den Tryz.prog 99 [encL 3 yx a0] (.str (zad a0)):=by
 generalize hR:zad a0=r;unfold zad at hR;refine di Tryz.func99 Tryz.ntmps99 Tryz.results99 ?_;intro c hL hc hk;obtain⟨hL0,_⟩:=hL;have hw0:a0.length<9223372036854775808:=Nat.lt_succ_of_le (yc hL0).1;have hw1:∀ v∈a0,bwSector v:=fun v hv=>yob v ((yc hL0).2 v hv)
 clear hL0;simp only[pars,Nat.zero_add];have hq4:=yzz;iterate 3 refine rS ?_
 refine AWP.block ?_;generalize hz1:yf (y9k a0) ([87,82,71,89].length-0) 0 []=z1 at hR;refine AWP.range (y9k a0) (fun i1 s1=>⟨[(0,encL 3 yx a0),(3,.str s1),(8,.ptr 0 0)],[.it [87,82,71,89] i1 (decide (i1<[87,82,71,89].length))]⟩) (fun i1 s1=>s1.length<=1099511627776 * i1) ([87,82,71,89].length) 0 [] [0] hz1 ot (by(simp)) sm ?_;clear hz1;intro i1 s1 hi1 hW1 hz1;refine AWP.seq ?_;by_cases hlt1:i1<[87,82,71,89].length
 ·rw[yk hlt1]at hz1;simp only[y9k]at hz1
  rw[decide_eq_true hlt1];refine rS ?_;refine AWP.seq ?_;refine AWP.cond rfl (fun hb => ?_) (fun hb=>by cases hb);iterate 2 refine rS ?_
  refine AWP.block ?_;generalize hz2:yf (y3q a0 i1 s1) (a0.length-0) 0 s1=z2 at hz1;refine AWP.range (y3q a0 i1 s1) (fun i2 s2=>⟨[(0,encL 3 yx a0),(3,.str s2),(4,.int .i64 (i1:Int)),(8,.ptr 0 0),(12,encL 3 yx a0),(13,.int .i64 (a0.length:Int)),(14,.int .i64 (i2:Int))],[.it [87,82,71,89] (i1+1) (decide (i1+1<[87,82,71,89].length))]⟩) (fun i2 s2=>s2.length<=1099511627776 * i1+i2) (a0.length) 0 s1 [0] hz2 ot (by(exact hW1)) sm ?_;clear hz2;intro i2 s2 hi2 hW2 hz2;refine rS ?_;refine AWP.seq ?_;refine AWP.cond rfl (fun hb => ?_) (fun hb => ?_)
  ·have hlt2:i2<a0.length:=ot
   rw[yk hlt2]at hz2;simp only[y3q]at hz2;iterate 3 refine rS ?_
   refine AWP.cond rfl (fun hb => ?_) (fun hb => ?_)
   ·simp only[hb,cond_true]at hz2
    iterate 2 refine rS ?_
    exact⟨_,[0],hlt2,by(have h4:=hq4 i1;have h2:=hW2;simp only[ln]at *;omega),hz2,sm⟩
   ·simp only[hb,cond_false]at hz2
    refine rS ?_;exact⟨_,[0],hlt2,by(have h4:=hq4 i1;have h2:=hW2;simp only[ln]at *;omega),hz2,sm⟩
  ·obtain rfl:i2=a0.length:=ot
   rw[yl (Nat.le_refl _)]at hz2;subst hz2;dsimp only at hz1;refine AWP.exit ?_;refine yb ?_;exact⟨_,[0],hlt1,by(have h1:=hW1;omega),hz1,sm⟩
 ·obtain rfl:i1=[87,82,71,89].length:=by omega
  rw[yl (Nat.le_refl _)]at hz1;subst hz1;dsimp only at hR;simp only[Nat.lt_irrefl,decide_false];refine rS ?_;refine AWP.seq ?_;refine AWP.cond rfl (fun hb=>by cases hb) (fun hb => ?_);refine AWP.exit ?_;refine yb ?_;refine rS ?_;refine AWP.ret ?_;subst hR;exact es
end N99
def D_zad : DF
 | [x0]=>some (.str (zad (rdL yab x0)),false,[wL 3 yx yab x0,(rdL yab x0).length<1099511627776,∀ v∈(rdL yab x0),bdSector v])
 | _=>none
theorem yn0:OkD Tryz.prog 99 D_zad:=by unfold D_zad;exact dk N99.den
def ydl (a0:(List Int)) (a1:(List Int)) (i1:Nat) (s1:Unit):Except (Bool) (Unit):=
 (bif ((a0.getD i1 default) != (a1.getD i1 default))then .error false else .ok ())
def zee (a0:(List Int)) (a1:(List Int)):Bool:=
 (bif ((a0.length:Int) != (a1.length:Int))then false else(match yf (ydl a0 a1) (a0.length-0) 0 ()with|.error e=>e|.ok s1=>true))
namespace N112
theorem DD:DOk Tryz.prog (Go.Ab.DD []):=yd _
theorem den (a0:(List Int)) (a1:(List Int))  : Den Tryz.prog 112 [encL 1 yv a0,encL 1 yv a1] (.bool (zee a0 a1)):=by
 generalize hR:zee a0 a1=r;unfold zee at hR;refine di Tryz.func112 Tryz.ntmps112 Tryz.results112 ?_;intro c hL hc hk;obtain⟨hL0,hL1,_⟩:=hL;have hw0:a0.length<9223372036854775808:=Nat.lt_succ_of_le (yc hL0).1;have hw1:a1.length<9223372036854775808:=Nat.lt_succ_of_le (yc hL1).1;clear hL0 hL1;simp only[pars,Nat.zero_add];iterate 2 refine rS ?_
 refine AWP.cond rfl (fun hb => ?_) (fun hb => ?_)
 ·replace hR:=ct hR
  refine rS ?_;refine AWP.ret ?_;subst hR;exact es
 ·replace hR:=cf hR
  refine rS ?_;refine AWP.block ?_;generalize hz1:yf (ydl a0 a1) (a0.length-0) 0 ()=z1 at hR;refine AWP.range (ydl a0 a1) (fun i1 s1=>⟨[(0,encL 1 yv a0),(1,encL 1 yv a1),(12,.int .i64 (a0.length:Int)),(13,.int .i64 (i1:Int))],[]⟩) (fun i1 s1=>True) (a0.length) 0 () [] hz1 ot wt sm ?_;clear hz1;intro i1 s1 hi1 hW1 hz1;refine rS ?_;refine AWP.seq ?_;refine AWP.cond rfl (fun hb => ?_) (fun hb => ?_)
  ·have hlt1:i1<a0.length:=ot
   rw[yk hlt1]at hz1;simp only[ydl]at hz1;refine rS ?_;refine rD 8 ?_;refine AWP.cond rfl (fun hb => ?_) (fun hb => ?_)
   ·simp only[hb,cond_true]at hz1
    refine rS ?_;refine AWP.ret ?_;subst hz1;dsimp only at hR;subst hR;exact es
   ·simp only[hb,cond_false]at hz1
    refine rS ?_;exact⟨_,[],hlt1,wt,hz1,sm⟩
  ·obtain rfl:i1=a0.length:=ot
   rw[yl (Nat.le_refl _)]at hz1;subst hz1;dsimp only at hR;refine AWP.exit ?_;refine yb ?_;refine rS ?_;refine AWP.ret ?_;subst hR;exact es
end N112
def D_zee : DF
 | [x0,x1]=>some (.bool (zee (rdL yhb x0) (rdL yhb x1)),false,[wL 1 yv yhb x0,wL 1 yv yhb x1])
 | _=>none
theorem y50:OkD Tryz.prog 112 D_zee:=by unfold D_zee;exact dk N112.den
theorem yuf (a b:List Int):zee a b=decide (a=b):=by
 unfold zee;by_cases hl:a.length=b.length
 ·have h1:((a.length:Int) != (b.length:Int))=false:=by simp[hl]
  rw[h1,cond_false,ydd (b:=ydl a b) (fun j => !decide (a.getD j default=b.getD j default)) false (fun j u _ _=>by simp only[ydl,ned])];simp only[Nat.sub_zero,Nat.zero_add];rw[yuy a b hl];by_cases h:a=b<;>simp[h]
 ·have h1:((a.length:Int) != (b.length:Int))=true:=by simp;omega
  have h2:¬ a=b:=fun e=>hl (by rw[e])
  rw[h1,cond_true,decide_eq_false h2]
def zeg (a0:Int):Bool:=
 (zg a0 1 100000000)
namespace N97
theorem DD:DOk Tryz.prog (Go.Ab.DD [(81,dP D_zg)]):=ya yhc.e <| yd _
theorem dn:type_of% (@D_zg.eq_1):=by and_intros<;>intros<;>rfl
theorem ol:type_of% (@zg.eq_1):=@zg.eq_1
theorem den (a0:Int)  : Den Tryz.prog 97 [.int .i64 a0] (.bool (zeg a0)):=by
 generalize hR:zeg a0=r;unfold zeg at hR;refine di Tryz.func97 Tryz.ntmps97 Tryz.results97 ?_;intro c hL hc hk;clear hL;simp only[pars,Nat.zero_add];iterate 2 refine rS ?_
 refine AWP.ret ?_;subst hR;exact es
end N97
def D_zeg : DF
 | [x0]=>some (.bool (zeg (rdI x0)),false,[wI .i64 x0])
 | _=>none
theorem yj3:OkD Tryz.prog 97 D_zeg:=by unfold D_zeg;exact dk N97.den
def zkg (a0:Int):Bool:=
 (zg a0 1 9999)
namespace N85
theorem DD:DOk Tryz.prog (Go.Ab.DD [(81,dP D_zg)]):=ya yhc.e <| yd _
theorem dn:type_of% (@D_zg.eq_1):=by and_intros<;>intros<;>rfl
theorem ol:type_of% (@zg.eq_1):=@zg.eq_1
theorem den (a0:Int)  : Den Tryz.prog 85 [.int .i64 a0] (.bool (zkg a0)):=by
 generalize hR:zkg a0=r;unfold zkg at hR;refine di Tryz.func85 Tryz.ntmps85 Tryz.results85 ?_;intro c hL hc hk;clear hL;simp only[pars,Nat.zero_add];iterate 2 refine rS ?_
 refine AWP.ret ?_;subst hR;exact es
end N85
def D_zkg : DF
 | [x0]=>some (.bool (zkg (rdI x0)),false,[wI .i64 x0])
 | _=>none
theorem yx1:OkD Tryz.prog 85 D_zkg:=by unfold D_zkg;exact dk N85.den
def zpd (a0:Point):Bool:=
 ((zg a0.X 0 200000) && (zg a0.Y 0 200000))
namespace N86
theorem DD:DOk Tryz.prog (Go.Ab.DD [(81,dP D_zg)]):=ya yhc.e <| yd _
theorem dn:type_of% (@D_zg.eq_1):=by and_intros<;>intros<;>rfl
theorem ol:type_of% (@zg.eq_1):=@zg.eq_1
theorem den (a0:Point)  : Den Tryz.prog 86 [.agg (ytf a0)] (.bool (zpd a0)):=by
 generalize hR:zpd a0=r;unfold zpd at hR;refine di Tryz.func86 Tryz.ntmps86 Tryz.results86 ?_;intro c hL hc hk;clear hL;simp only[pars,Nat.zero_add];iterate 2 refine rS ?_
 refine AWP.ret ?_;subst hR;exact es
end N86
def D_zpd : DF
 | [x0]=>some (.bool (zpd (rdG yom x0)),false,[wG ytf yom x0])
 | _=>none
theorem yum:OkD Tryz.prog 86 D_zpd:=by unfold D_zpd;exact dk N86.den
def zlg (a0:Int):Bool:=
 (zg a0 0 3000)
namespace N87
theorem DD:DOk Tryz.prog (Go.Ab.DD [(81,dP D_zg)]):=ya yhc.e <| yd _
theorem dn:type_of% (@D_zg.eq_1):=by and_intros<;>intros<;>rfl
theorem ol:type_of% (@zg.eq_1):=@zg.eq_1
theorem den (a0:Int)  : Den Tryz.prog 87 [.int .i64 a0] (.bool (zlg a0)):=by
 generalize hR:zlg a0=r;unfold zlg at hR;refine di Tryz.func87 Tryz.ntmps87 Tryz.results87 ?_;intro c hL hc hk;clear hL;simp only[pars,Nat.zero_add];iterate 2 refine rS ?_
 refine AWP.ret ?_;subst hR;exact es
end N87
def D_zlg : DF
 | [x0]=>some (.bool (zlg (rdI x0)),false,[wI .i64 x0])
 | _=>none
theorem yqz:OkD Tryz.prog 87 D_zlg:=by unfold D_zlg;exact dk N87.den
def zff (a0:Character) (a1:Character):Bool:=
 (((((a0.Kind == a1.Kind) && (zee a0.Group a1.Group)) && (a0.Letter == a1.Letter)) && (a0.Colors == a1.Colors)) && (a0.Period == a1.Period))
namespace N71
theorem DD:DOk Tryz.prog (Go.Ab.DD [(112,dP D_zee)]):=ya y50.e <| yd _
theorem dn:type_of% (@D_zee.eq_1):=by and_intros<;>intros<;>rfl
theorem den (a0:Character) (a1:Character)  : Den Tryz.prog 71 [.agg (yq a0),.agg (yq a1)] (.bool (zff a0 a1)):=by
 generalize hR:zff a0 a1=r;unfold zff at hR;refine di Tryz.func71 Tryz.ntmps71 Tryz.results71 ?_;intro c hL hc hk;obtain⟨hL0,hL1,_⟩:=hL;have hw0:bwCharacter a0:=yz a0 hL0;have hw1:bwCharacter a1:=yz a1 hL1;clear hL0 hL1;simp only[pars,Nat.zero_add];iterate 2 refine rS ?_
 refine AWP.ret ?_;subst hR;exact es
end N71
def D_zff : DF
 | [x0,x1]=>some (.bool (zff (rdG ye x0) (rdG ye x1)),false,[wG yq ye x0,wG yq ye x1])
 | _=>none
theorem yht:OkD Tryz.prog 71 D_zff:=by unfold D_zff;exact dk N71.den
def zfg (a0:Aid):Bool:=
 (((zff a0.Light ({ Kind:=0,Group:=[],Letter:=[],Colors:=[],Period:=0:Character })) && ((a0.Sectors.length:Int) == 0)) && (a0.Intensity == 0))
namespace N89
theorem DD:DOk Tryz.prog (Go.Ab.DD [(71,dP D_zff)]):=ya yht.e <| yd _
theorem dn:type_of% (@D_zff.eq_1):=by and_intros<;>intros<;>rfl
theorem den (a0:Aid)  : Den Tryz.prog 89 [.agg (eAid a0)] (.bool (zfg a0)):=by
 generalize hR:zfg a0=r;unfold zfg at hR;refine di Tryz.func89 Tryz.ntmps89 Tryz.results89 ?_;intro c hL hc hk;obtain⟨hL0,_⟩:=hL;have hw0:bwAid a0:=ylb a0 hL0;clear hL0;simp only[pars,Nat.zero_add];iterate 2 refine rS ?_
 refine AWP.ret ?_;subst hR;exact es
end N89
def D_zfg : DF
 | [x0]=>some (.bool (zfg (rdG dAid x0)),false,[wG eAid dAid x0])
 | _=>none
theorem yl1:OkD Tryz.prog 89 D_zfg:=by unfold D_zfg;exact dk N89.den
def zrc (a0:Int):(List UInt8):=
 (zac a0 ([[],[70],[79,99],[73,115,111],[70,108],[76,70,108],[81],[86,81],[77,111]]:List (List UInt8)))
namespace N146
theorem DD:DOk Tryz.prog (Go.Ab.DD [(147,dP D_zac)]):=ya ypg.e <| yd _
theorem dn:type_of% (@D_zac.eq_1):=by and_intros<;>intros<;>rfl
theorem lx {p:Prop} (h:p:=by(exact lxx);first|done|fail):p:=h
theorem den (a0:Int)  : Den Tryz.prog 146 [.int .i64 a0] (.str (zrc a0)):=by
 generalize hR:zrc a0=r;unfold zrc at hR;refine di Tryz.func146 Tryz.ntmps146 Tryz.results146 ?_;intro c hL hc hk;clear hL;simp only[pars,Nat.zero_add];iterate 2 refine rS ?_
 refine AWP.ret ?_;subst hR;exact es
end N146
def D_zrc : DF
 | [x0]=>some (.str (zrc (rdI x0)),false,[wI .i64 x0])
 | _=>none
theorem ynt:OkD Tryz.prog 146 D_zrc:=by unfold D_zrc;exact dk N146.den
theorem y5t (k:Int):(zrc k).length<=3:=by
 unfold zrc zac;simp only[Bool.cond_eq_ite];split
 ·simp
 ·rw[List.getD_eq_getElem?_getD]
  have h:∀ x∈([[],[70],[79,99],[73,115,111],[70,108],[76,70,108],[81],[86,81],[77,111]]:List (List UInt8)),x.length<=3:=by decide
  cases hg:([[],[70],[79,99],[73,115,111],[70,108],[76,70,108],[81],[86,81],[77,111]]:List (List UInt8))[k.toNat]? with
  | none=>show(0:Nat)<=3;omega
  | some x=>exact h x (List.mem_of_getElem? hg)
theorem yjk (xs:List (List UInt8)) (h:∀ v∈xs,v.length<=20):(zic xs [43]).length<=21 * xs.length/\(Go.Lib.join xs [43]).length<=21 * xs.length:=by
 have h1:=y2i [43] xs 20 h;simp only[List.length_singleton]at h1;exact⟨by show(Go.Lib.join xs [43]).length<=_;omega,by omega⟩
def yhl (a0:Character) (i1:Nat) (s1:List (List UInt8)):Except ((List UInt8)) (List (List UInt8)):=
 .ok (s1++[(zo (a0.Group.getD i1 default))])
def zqd (a0:Character):(List UInt8):=
 (bif (a0.Kind == 8)then(((zrc a0.Kind)++[40])++a0.Letter)++[41]else(bif decide (0<(a0.Group.length:Int))then(match yf (yhl a0) (a0.Group.length-0) 0 ([]:List (List UInt8))with|.error e=>e|.ok s1=>(bif (a0.Letter != [])then((zrc a0.Kind)++(([40]++(zic s1 [43]))++[41]))++[43,76,70,108]else(zrc a0.Kind)++(([40]++(zic s1 [43]))++[41])))else(bif (a0.Letter != [])then(zrc a0.Kind)++[43,76,70,108]else(zrc a0.Kind))))
namespace N100
theorem DD:DOk Tryz.prog (Go.Ab.DD [(146,dP D_zrc),(24,dP D_zo),(59,dP D_zic)]):=ya ynt.e <| ya y3f.e <| ya y6i.e <| yd _
theorem dn:type_of% (And.intro @D_zrc.eq_1 <| And.intro @D_zo.eq_1 <| @D_zic.eq_1):=by and_intros<;>intros<;>rfl
theorem gr {p:Prop} (h:p:=by(grind [ypd]);first|done|fail):p:=h
theorem o0 {p:Prop} (h:p:=by(first|(have h9:=yjk s1 (by first|exact hW1|exact hW1.2);first|omega|(simp only[ob,ln,List.length_singleton,List.length_append,List.length_cons,List.length_nil]at *;omega)|(and_intros<;>first|omega|(simp only[ob,ln,List.length_singleton,List.length_append,List.length_cons,List.length_nil]at *;omega)))|(have h9:=hg9 i1;and_intros<;>omega)|(simp only[ob,ln,List.length_singleton,List.length_append,List.length_cons,List.length_nil]at *;omega));first|done|fail):p:=h
theorem o1 {p:Prop} (h:p:=by(first|(have h9:=yjk s1 hW1.2;have h8:=hW1.1;simp only[ob,ln,List.length_singleton,List.length_append,List.length_cons,List.length_nil]at *;omega)|(have h9:=hg9 i1;omega));first|done|fail):p:=h
set_option maxHeartbeats 1000000 in
set_option maxRecDepth 20000 in
theorem den (a0:Character) (hb0:bdCharacter a0) (hp0:a0.Group.length<=4) (hp1:∀ v∈a0.Group,1<=v/\v<=9):Den Tryz.prog 100 [.agg (yq a0)] (.str (zqd a0)):=by
 generalize hR:zqd a0=r;unfold zqd at hR;refine di Tryz.func100 Tryz.ntmps100 Tryz.results100 ?_;intro c hL hc hk;obtain⟨hL0,_⟩:=hL;have hw0:bwCharacter a0:=yz a0 hL0;clear hL0;simp only[pars,Nat.zero_add];have hg9:∀ i:Nat,0<=a0.Group.getD i default/\a0.Group.getD i default<=9:=fun i=>y0i hp1 i
 have hk9:=y5t a0.Kind;iterate 3 refine rS ?_
 refine AWP.cond rfl (fun hb => ?_) (fun hb => ?_)
 ·replace hR:=ct hR
  refine rS ?_;refine AWP.ret ?_;subst hR;exact es
 ·replace hR:=cf hR
  refine rS ?_;refine AWP.cond rfl (fun hb => ?_) (fun hb => ?_)
  ·replace hR:=ct hR
   iterate 2 refine rS ?_
   refine AWP.block ?_;refine AWP.lensS 20 rfl (fun hLn1 => ?_);generalize hz1:yf (yhl a0) (a0.Group.length-0) 0 ([]:List (List UInt8))=z1 at hR;refine AWP.range (yhl a0) (fun i1 s1=>⟨[(1,.ptr 0 0),(3,.str (zrc a0.Kind)),(4,.ref 1 1 0 s1.length),(25,encL 1 yv a0.Group),(26,.int .i64 (a0.Group.length:Int)),(27,.int .i64 (i1:Int))],[.box [.int .i64 a0.Kind,encL 1 yv a0.Group,.str a0.Letter,.str a0.Colors,.int .i64 a0.Period],.arr 9 1 s1.length (fun j=>eS (s1.getD j default))]⟩) (fun i1 s1=>s1.length<=([]:List (List UInt8)).length+1 * i1/\∀ v∈s1,v.length<=20) (a0.Group.length) 0 ([]:List (List UInt8)) [0,1] hz1 ot wt sm ?_;clear hz1;intro i1 s1 hi1 hW1 hz1;refine rS ?_;refine AWP.seq ?_;refine AWP.cond rfl (fun hb => ?_) (fun hb => ?_)
   ·have hlt1:i1<a0.Group.length:=ot
    rw[yk hlt1]at hz1;simp only[yhl]at hz1;iterate 3 refine rS ?_
    exact⟨_,[0,3],hlt1,by(and_intros<;>first|(simp only[ln,List.length_append,List.length_singleton,List.length_nil]at *;omega)|(intro v hv;exact(List.mem_append.1 hv).elim (fun h=>by first|exact hW1 v h|exact hW1.2 v h|exact hW1.2.2 v h) (fun h=>by rw[List.mem_singleton]at h;subst h;exact y3b _ (by have:=hg9 i1;omega) (by have:=hg9 i1;omega)))),hz1,sm⟩
   ·obtain rfl:i1=a0.Group.length:=ot
    rw[yl (Nat.le_refl _)]at hz1;subst hz1;dsimp only at hR;refine AWP.exit ?_;refine yb ?_;iterate 2 refine rS ?_
    refine AWP.cond rfl (fun hb => ?_) (fun hb => ?_)
    ·replace hR:=ct hR
     iterate 2 refine rS ?_
     refine AWP.ret ?_;subst hR;exact es
    ·replace hR:=cf hR
     refine rS ?_;refine AWP.ret ?_;subst hR;exact es
  ·replace hR:=cf hR
   refine rS ?_;refine AWP.cond rfl (fun hb => ?_) (fun hb => ?_)
   ·replace hR:=ct hR
    iterate 2 refine rS ?_
    refine AWP.ret ?_;subst hR;exact es
   ·replace hR:=cf hR
    refine rS ?_;refine AWP.ret ?_;subst hR;exact es
end N100
def D_zqd : DF
 | [x0]=>some (.str (zqd (rdG ye x0)),false,[wG yq ye x0,bdCharacter (rdG ye x0),(rdG ye x0).Group.length<=4,∀ v∈(rdG ye x0).Group,1<=v/\v<=9])
 | _=>none
theorem y21:OkD Tryz.prog 100 D_zqd:=by unfold D_zqd;exact dk N100.den
def zfe (a0:Int):(List UInt8):=
 (bif ((a0.tmod 10) == 0)then(zo (IntKind.wrap .i64 (a0.tdiv 10)))else((zo (IntKind.wrap .i64 (a0.tdiv 10)))++[46])++(zo (a0.tmod 10)))
namespace N101
theorem DD:DOk Tryz.prog (Go.Ab.DD [(24,dP D_zo)]):=ya y3f.e <| yd _
theorem dn:type_of% (@D_zo.eq_1):=by and_intros<;>intros<;>rfl
theorem gr {p:Prop} (h:p:=by(grind [ypd]);first|done|fail):p:=h
set_option maxHeartbeats 400000 in
set_option maxRecDepth 20000 in
theorem den (a0:Int) (hp0 : -9223372036854775808<=a0) (hp1:a0<=9223372036854775807):Den Tryz.prog 101 [.int .i64 a0] (.str (zfe a0)):=by
 generalize hR:zfe a0=r;unfold zfe at hR;refine di Tryz.func101 Tryz.ntmps101 Tryz.results101 ?_;intro c hL hc hk;clear hL;simp only[pars,Nat.zero_add];have h1:=yyl (a0.tdiv 10);have ht:=yju a0;have h2:=y3b (a0.tmod 10) (by omega) (by omega);iterate 2 refine rS ?_
 refine AWP.cond rfl (fun hb => ?_) (fun hb => ?_)
 ·replace hR:=ct hR
  refine rS ?_;refine AWP.ret ?_;subst hR;exact es
 ·replace hR:=cf hR
  refine rS ?_;refine AWP.ret ?_;subst hR;exact es
end N101
def D_zfe : DF
 | [x0]=>some (.str (zfe (rdI x0)),false,[wI .i64 x0,-9223372036854775808<=(rdI x0),(rdI x0)<=9223372036854775807])
 | _=>none
theorem y3u:OkD Tryz.prog 101 D_zfe:=by unfold D_zfe;exact dk N101.den
def zrd (a0:Int):(List UInt8):=
 (zac a0 ([[110,111,110,101],[108,101,102,116],[114,105,103,104,116],[110,111,114,116,104],[101,97,115,116],[115,111,117,116,104],[119,101,115,116],[100,97,110,103,101,114],[115,97,102,101],[115,112,101,99,105,97,108]]:List (List UInt8)))
namespace N102
theorem DD:DOk Tryz.prog (Go.Ab.DD [(147,dP D_zac)]):=ya ypg.e <| yd _
theorem dn:type_of% (@D_zac.eq_1):=by and_intros<;>intros<;>rfl
theorem lx {p:Prop} (h:p:=by(exact lxx);first|done|fail):p:=h
theorem den (a0:Int)  : Den Tryz.prog 102 [.int .i64 a0] (.str (zrd a0)):=by
 generalize hR:zrd a0=r;unfold zrd at hR;refine di Tryz.func102 Tryz.ntmps102 Tryz.results102 ?_;intro c hL hc hk;clear hL;simp only[pars,Nat.zero_add];iterate 2 refine rS ?_
 refine AWP.ret ?_;subst hR;exact es
end N102
def D_zrd : DF
 | [x0]=>some (.str (zrd (rdI x0)),false,[wI .i64 x0])
 | _=>none
theorem ydn:OkD Tryz.prog 102 D_zrd:=by unfold D_zrd;exact dk N102.den
theorem ynr (l:List (List UInt8)) (h:∀ x∈l,x.length<=100) (n:Nat):(l.getD n default).length<=100:=by
 rw[List.getD_eq_getElem?_getD]
 cases hg:l[n]? with
 | none=>show(0:Nat)<=100;omega
 | some x=>exact h x (List.mem_of_getElem? hg)
theorem yrz (k:Int) (l:List (List UInt8)) (h:∀ x∈l,x.length<=100):(zac k l).length<=100:=by
 unfold zac;simp only[Bool.cond_eq_ite];split
 ·simp
 ·exact ynr l h _
def zvf (a0:Int) (a1:Int):(List UInt8):=
 (zne [48] (if 0<IntKind.wrap .i64 (a1-((zo a0).length:Int))then IntKind.wrap .i64 (a1-((zo a0).length:Int))else 0))++(zo a0)
namespace N34
theorem DD:DOk Tryz.prog (Go.Ab.DD [(24,dP D_zo),(56,dP D_zne)]):=ya y3f.e <| ya y11.e <| yd _
theorem dn:type_of% (And.intro @D_zo.eq_1 <| @D_zne.eq_1):=by and_intros<;>intros<;>rfl
theorem ol:type_of% (@yvs):=@yvs
theorem gr {p:Prop} (h:p:=by(grind [ypd,yvs]);first|done|fail):p:=h
theorem den (a0:Int) (a1:Int) (hp0 : -1000000000000<=a0) (hp1:a0<=1000000000000) (hp2:0<=a1) (hp3:a1<=4):Den Tryz.prog 34 [.int .i64 a0,.int .i64 a1] (.str (zvf a0 a1)):=by
 generalize hR:zvf a0 a1=r;unfold zvf at hR;refine di Tryz.func34 Tryz.ntmps34 Tryz.results34 ?_;intro c hL hc hk;clear hL;simp only[pars,Nat.zero_add];have hl0:=ypd a0;iterate 3 refine rS ?_
 refine AWP.ret ?_;subst hR;exact es
end N34
def D_zvf : DF
 | [x0,x1]=>some (.str (zvf (rdI x0) (rdI x1)),false,[wI .i64 x0,wI .i64 x1,-1000000000000<=(rdI x0),(rdI x0)<=1000000000000,0<=(rdI x1),(rdI x1)<=4])
 | _=>none
theorem yc3:OkD Tryz.prog 34 D_zvf:=by unfold D_zvf;exact dk N34.den
def y1l (a0:(List UInt8)) (i1:Nat) (s1:Int):Except ((Int×Bool)) (Int):=
 (bif (decide (((a0.getD i1 0).toNat:Int)<48) || decide (57<((a0.getD i1 0).toNat:Int)))then .error (0,false)else .ok (IntKind.wrap .i64 ((IntKind.wrap .i64 (10 * s1))+(IntKind.wrap .i64 (IntKind.wrap .u8 (((a0.getD i1 0).toNat:Int)-48))))))
def zfd (a0:(List UInt8)):(Int×Bool):=
 (match yf (y1l a0) (a0.length-0) 0 0 with|.error e=>e|.ok s1=>(s1,(zg (a0.length:Int) 1 18)))
namespace N64
theorem DD:DOk Tryz.prog (Go.Ab.DD [(81,dP D_zg)]):=ya yhc.e <| yd _
theorem dn:type_of% (@D_zg.eq_1):=by and_intros<;>intros<;>rfl
theorem ol:type_of% (@zg.eq_1):=@zg.eq_1
theorem den (a0:(List UInt8))  : Den Tryz.prog 64 [.str a0] (.tup [.int .i64 ((zfd a0).1),.bool ((zfd a0).2)]):=by
 generalize hR:zfd a0=r;unfold zfd at hR;refine di Tryz.func64 Tryz.ntmps64 Tryz.results64 ?_;intro c hL hc hk;obtain⟨hL0,_⟩:=hL;have hw0:a0.length<9223372036854775808:=Nat.lt_succ_of_le hL0;clear hL0;simp only[pars,Nat.zero_add];iterate 3 refine rS ?_
 refine AWP.block ?_;generalize hz1:yf (y1l a0) (a0.length-0) 0 0=z1 at hR;refine AWP.range (y1l a0) (fun i1 s1=>⟨[(0,.str a0),(4,.int .i64 s1),(5,.int .i64 (i1:Int))],[]⟩) (fun i1 s1=>True) (a0.length) 0 0 [] hz1 ot wt sm ?_;clear hz1;intro i1 s1 hi1 hW1 hz1;refine rS ?_;refine AWP.cond rfl (fun hb => ?_) (fun hb => ?_)
 ·have hlt1:i1<a0.length:=ot
  rw[yk hlt1]at hz1;simp only[y1l]at hz1;refine rS ?_;refine AWP.cond rfl (fun hb => ?_) (fun hb => ?_)
  ·simp only[hb,cond_true]at hz1
   refine rS ?_;refine AWP.ret ?_;subst hz1;dsimp only at hR;subst hR;exact es
  ·simp only[hb,cond_false]at hz1
   iterate 2 refine rS ?_
   exact⟨_,[],hlt1,wt,hz1,sm⟩
 ·obtain rfl:i1=a0.length:=ot
  rw[yl (Nat.le_refl _)]at hz1;subst hz1;dsimp only at hR;refine AWP.exit ?_;refine yb ?_;refine rS ?_;refine AWP.ret ?_;subst hR;exact es
end N64
def D_zfd : DF
 | [x0]=>some (.tup [.int .i64 ((zfd (rdS x0)).1),.bool ((zfd (rdS x0)).2)],false,[wS x0])
 | _=>none
theorem ykz:OkD Tryz.prog 64 D_zfd:=by unfold D_zfd;exact dk N64.den
theorem y30 (x:Int):(decide (x<48) || decide (57<x)) = !(decide (48<=x) && decide (x<=57)):=by
 apply Bool.eq_iff_iff.2;simp only[Bool.or_eq_true,decide_eq_true_eq,Bool.not_eq_true',Bool.and_eq_false_iff,decide_eq_false_iff_not];omega
theorem yfs (l:List UInt8) (h:l.length<=18) (h0:l≠[]):zfd l=if y5c l then(((digV 0 l:Nat):Int),true)else(0,false):=by
 unfold zfd
 have hpow:(0+1) * 10 ^ (l.length-0)<=E18:=by
  have:10 ^ (l.length-0)<=10 ^ 18:=Nat.pow_le_pow_right (by decide) (by omega);have h6:(10:Nat) ^ 18=1000000000000000000:=by decide
  unfold E18;omega
 have hL:=y0l l (y1l l) (fun i s=>by
  unfold y1l
  rw[y30]) (l.length-0) 0 0 (by omega) hpow
 rw[List.drop_zero]at hL;rw[show(0:Int)=((0:Nat):Int)from rfl,hL]
 have hw:zg (l.length:Int) 1 18=true:=by
  have:=List.length_pos_iff.2 h0;unfold zg;simp;omega
 by_cases hA:y5c l
 ·rw[if_pos hA,if_pos hA];simp only[hw]
 ·rw[if_neg hA,if_neg hA];rfl
def yro (a0:(List UInt8)) (i1:Nat) (s1:List (List UInt8)):Except ((List (List UInt8))) (List (List UInt8)):=
 (bif (((zf a0 [32]).getD i1 default) != [])then .ok (s1++[((zf a0 [32]).getD i1 default)])else .ok s1)
def zcb (a0:(List UInt8)):(List (List UInt8)):=
 (match yf (yro a0) (((zf a0 [32]).length)-0) 0 ([]:List (List UInt8))with|.error e=>e|.ok s1=>s1)
namespace N107
theorem DD:DOk Tryz.prog (Go.Ab.DD [(65,dP D_zf)]):=ya ypj.e <| yd _
theorem dn:type_of% (@D_zf.eq_1):=by and_intros<;>intros<;>rfl
theorem den (a0:(List UInt8)) (hb0:a0.length<1099511627776) (hp0:a0.length<=1048576):Den Tryz.prog 107 [.str a0] (ownL 9 1 eS (zcb a0)):=by
 generalize hR:zcb a0=r;unfold zcb at hR;refine di Tryz.func107 Tryz.ntmps107 Tryz.results107 ?_;intro c hL hc hk;obtain⟨hL0,_⟩:=hL;have hw0:a0.length<9223372036854775808:=Nat.lt_succ_of_le hL0;clear hL0;simp only[pars,Nat.zero_add];have hs9:=yet a0 [32] (by omega);iterate 3 refine rS ?_
 refine AWP.block ?_;generalize hz1:yf (yro a0) (((zf a0 [32]).length)-0) 0 ([]:List (List UInt8))=z1 at hR;refine AWP.range (yro a0) (fun i1 s1=>⟨[(3,.ref 0 1 0 s1.length),(8,.ref 1 1 0 ((zf a0 [32]).length)),(9,.int .i64 ((zf a0 [32]).length:Int)),(10,.int .i64 (i1:Int))],[.arr 9 1 s1.length (fun j=>eS (s1.getD j default)),.arr 9 1 (zf a0 [32]).length (fun j=>eS ((zf a0 [32]).getD j default))]⟩) (fun i1 s1=>s1.length<=([]:List (List UInt8)).length+1 * i1/\s1.length<=i1) (((zf a0 [32]).length)) 0 ([]:List (List UInt8)) [0,1] hz1 ot wt sm ?_;clear hz1;intro i1 s1 hi1 hW1 hz1;refine rS ?_;refine AWP.seq ?_;refine AWP.cond rfl (fun hb => ?_) (fun hb => ?_)
 ·have hlt1:i1<((zf a0 [32]).length):=ot
  rw[yk hlt1]at hz1;simp only[yro]at hz1;iterate 2 refine rS ?_
  refine AWP.cond rfl (fun hb => ?_) (fun hb => ?_)
  ·simp only[hb,cond_true]at hz1
   iterate 2 refine rS ?_
   exact⟨_,[3,1],hlt1,wt,hz1,sm⟩
  ·simp only[hb,cond_false]at hz1
   refine rS ?_;exact⟨_,[0,1],hlt1,wt,hz1,sm⟩
 ·obtain rfl:i1=((zf a0 [32]).length):=ot
  rw[yl (Nat.le_refl _)]at hz1;subst hz1;dsimp only at hR;refine AWP.exit ?_;refine yb ?_;refine rS ?_;refine AWP.ret ?_;subst hR;exact es
end N107
def D_zcb : DF
 | [x0]=>some (ownL 9 1 eS (zcb (rdS x0)),false,[wS x0,(rdS x0).length<1099511627776,(rdS x0).length<=1048576])
 | _=>none
theorem yr0:OkD Tryz.prog 107 D_zcb:=by unfold D_zcb;exact dk N107.den
theorem yhd (l:List (List UInt8)) (b:Nat->List (List UInt8)->Except (List (List UInt8)) (List (List UInt8))) (hb:∀ i s,b i s=(bif (l.getD i default) != []then .ok (s++[l.getD i default])else .ok s)) :
  ∀ (k i:Nat) (s:List (List UInt8)),i+k=l.length->yf b k i s=.ok (s++(l.drop i).filter (· != []))
 | 0,i,s,h=>by
  rw[List.drop_eq_nil_of_le (by omega)];simp[yf]
 | k+1,i,s,h=>by
  have hlt:i<l.length:=by omega
  have hg:l.getD i default=l[i]:=by simp[List.getD,List.getElem?_eq_getElem hlt]
  simp only[yf,hb,hg];rw[List.drop_eq_getElem_cons hlt,List.filter_cons]
  cases hc:(l[i] != [])with
  | true=>
   simp only[cond_true];rw[yhd l b hb k (i+1) _ (by omega)];simp
  | false=>
   simp only[cond_false];rw[yhd l b hb k (i+1) _ (by omega)];simp
theorem yx7 (a:List UInt8):zcb a=(y9 32 a).filter (· != []):=by
 unfold zcb;rw[yhd (zf a [32]) (yro a) (fun i s=>rfl) _ 0 [] (by omega)];rfl
theorem yt6 (a:List UInt8) (ha:a.length<=1048576):∀ x∈zcb a,x.length<=1048576:=by
 intro x hx;rw[yx7]at hx;have:=(ycd 32 a).2 x (List.mem_filter.1 hx).1;omega
theorem ywg {l:List (List UInt8)} (h:∀ x∈l,x.length<=1048576) (i:Nat):(l.getD i default).length<=1048576:=by
 by_cases hi:i<l.length
 ·rw[List.getD_eq_getElem?_getD,List.getElem?_eq_getElem hi]
  exact h _ (List.getElem_mem hi)
 ·rw[List.getD_eq_getElem?_getD,List.getElem?_eq_none (by omega)]
  show([]:List UInt8).length<=_;simp
def y8r (a0:(List UInt8)) (s1:Int×Int):Except (Sum ((Character×Bool)) (Int×Int)) (Int×Int):=
 (bif decide (s1.1<=8)then(bif ((zrc s1.1) == ((zd ((zi a0 [43,76,70,108]).1) [40]).1))then .ok (IntKind.wrap .i64 (s1.1+1),s1.1)else .ok (IntKind.wrap .i64 (s1.1+1),s1.2))else .error (.inr (s1.1,s1.2)))
def yrr (a0:(List UInt8)) (s1:Int×Int) (i2:Nat) (s2:List Int):Except ((Character×Bool)) (List Int):=
 (bif (!((zl ((zf ((zi ((zd ((zi a0 [43,76,70,108]).1) [40]).2.1) [41]).1) [43]).getD i2 default)).2))then .error ({ Kind:=0,Group:=[],Letter:=[],Colors:=[],Period:=0:Character },false)else .ok (s2++([(zl ((zf ((zi ((zd ((zi a0 [43,76,70,108]).1) [40]).2.1) [41]).1) [43]).getD i2 default)).1]:List Int)))
def yjj (a0:(List UInt8)) (s3:Int×Int):Except (Sum ((Character×Bool)) (Int×Int)) (Int×Int):=
 (bif decide (s3.1<=8)then(bif ((zrc s3.1) == ((zd ((zi a0 [43,76,70,108]).1) [40]).1))then .ok (IntKind.wrap .i64 (s3.1+1),s3.1)else .ok (IntKind.wrap .i64 (s3.1+1),s3.2))else .error (.inr (s3.1,s3.2)))
def yqr (a0:(List UInt8)) (s3:Int×Int) (i4:Nat) (s4:List Int):Except ((Character×Bool)) (List Int):=
 (bif (!((zl ((zf ((zi ((zd ((zi a0 [43,76,70,108]).1) [40]).2.1) [41]).1) [43]).getD i4 default)).2))then .error ({ Kind:=0,Group:=[],Letter:=[],Colors:=[],Period:=0:Character },false)else .ok (s4++([(zl ((zf ((zi ((zd ((zi a0 [43,76,70,108]).1) [40]).2.1) [41]).1) [43]).getD i4 default)).1]:List Int)))
def zq (a0:(List UInt8)):(Character×Bool):=
 (bif (zi a0 [43,76,70,108]).2 then(match yeb (y8r a0) (((9-(1:Int)).toNat)+1) (1,0)with|.error (.inl e)=>e|.error (.inr s1)=>(bif (!((zd ((zi a0 [43,76,70,108]).1) [40]).2.2))then({ Kind:=s1.2,Group:=[],Letter:=[76],Colors:=[],Period:=0:Character },true)else(bif (s1.2 == 8)then({ Kind:=s1.2,Group:=[],Letter:=(zi ((zd ((zi a0 [43,76,70,108]).1) [40]).2.1) [41]).1,Colors:=[],Period:=0:Character },((zi ((zd ((zi a0 [43,76,70,108]).1) [40]).2.1) [41]).2 && (!((zi a0 [43,76,70,108]).2))))else(match yf (yrr a0 s1) (((zf ((zi ((zd ((zi a0 [43,76,70,108]).1) [40]).2.1) [41]).1) [43]).length)-0) 0 ([]:List Int)with|.error e=>e|.ok s2=>({ Kind:=s1.2,Group:=s2,Letter:=[76],Colors:=[],Period:=0:Character },(zi ((zd ((zi a0 [43,76,70,108]).1) [40]).2.1) [41]).2))))|.ok _=>default)else(match yeb (yjj a0) (((9-(1:Int)).toNat)+1) (1,0)with|.error (.inl e)=>e|.error (.inr s3)=>(bif (!((zd ((zi a0 [43,76,70,108]).1) [40]).2.2))then({ Kind:=s3.2,Group:=[],Letter:=[],Colors:=[],Period:=0:Character },true)else(bif (s3.2 == 8)then({ Kind:=s3.2,Group:=[],Letter:=(zi ((zd ((zi a0 [43,76,70,108]).1) [40]).2.1) [41]).1,Colors:=[],Period:=0:Character },((zi ((zd ((zi a0 [43,76,70,108]).1) [40]).2.1) [41]).2 && (!((zi a0 [43,76,70,108]).2))))else(match yf (yqr a0 s3) (((zf ((zi ((zd ((zi a0 [43,76,70,108]).1) [40]).2.1) [41]).1) [43]).length)-0) 0 ([]:List Int)with|.error e=>e|.ok s4=>({ Kind:=s3.2,Group:=s4,Letter:=[],Colors:=[],Period:=0:Character },(zi ((zd ((zi a0 [43,76,70,108]).1) [40]).2.1) [41]).2))))|.ok _=>default))
namespace N109
theorem DD:DOk Tryz.prog (Go.Ab.DD [(146,dP D_zrc),(154,dP D_zi),(49,dP D_zd),(65,dP D_zf),(66,dP D_zl)]):=ya ynt.e <| ya yj5.e <| ya yke.e <| ya ypj.e <| ya y9f.e <| yd _
theorem dn:type_of% (And.intro @D_zrc.eq_1 <| And.intro @D_zi.eq_1 <| And.intro @D_zd.eq_1 <| And.intro @D_zf.eq_1 <| @D_zl.eq_1):=by and_intros<;>intros<;>rfl
theorem gr {p:Prop} (h:p:=by(grind [yco,ykc]);first|done|fail):p:=h
theorem o0 {p:Prop} (h:p:=by(first|(and_intros<;>(first|omega|rfl|exact ywg c4 _)));first|done|fail):p:=h
theorem o2 {p:Prop} (h:p:=by(first|(and_intros<;>first|omega|(rw[IntKind.wrap_i64];omega)|(simp;(first|done|fail))|(intro i hi;exact ygh _ _ i hi)|(intro i hi;rw[ygh _ _ i hi];exact yt _)|decide));first|done|fail):p:=h
set_option maxHeartbeats 2000000 in
set_option maxRecDepth 20000 in
theorem den (a0:(List UInt8)) (hb0:a0.length<1099511627776) (hp0:a0.length<=1048576):Den Tryz.prog 109 [.str a0] (.tup [.agg (ypb ((zq a0).1)),.bool ((zq a0).2)]):=by
 generalize hR:zq a0=r;unfold zq at hR;refine di Tryz.func109 Tryz.ntmps109 Tryz.results109 ?_;intro c hL hc hk;obtain⟨hL0,_⟩:=hL;have hw0:a0.length<9223372036854775808:=Nat.lt_succ_of_le hL0;clear hL0;simp only[pars,Nat.zero_add];have c1:=yco a0 [43,76,70,108];have c2:=ykc (zi a0 [43,76,70,108]).1 [40];have c3:=yco (zd (zi a0 [43,76,70,108]).1 [40]).2.1 [41];have c4:=(yet (zi (zd (zi a0 [43,76,70,108]).1 [40]).2.1 [41]).1 [43] (by omega)).2;have c5:=(yet (zi (zd (zi a0 [43,76,70,108]).1 [40]).2.1 [41]).1 [43] (by omega)).1;iterate 4 refine rS ?_
 refine AWP.cond rfl (fun hb => ?_) (fun hb => ?_)
 ·replace hR:=ct hR
  iterate 3 refine rS ?_
  refine AWP.block ?_;generalize hz1:yeb (y8r a0) (((9-(1:Int)).toNat)+1) (1,0)=z1 at hR;refine AWP.whileW (y8r a0) (fun s1=>⟨[(2,.ptr 0 0),(4,.ptr 1 0),(6,.bool ((zi a0 [43,76,70,108]).2)),(7,.str ((zd ((zi a0 [43,76,70,108]).1) [40]).1)),(8,.str ((zd ((zi a0 [43,76,70,108]).1) [40]).2.1)),(9,.bool ((zd ((zi a0 [43,76,70,108]).1) [40]).2.2)),(10,.int .i64 s1.1)],[.box [.int .i64 0,.nils,.str [],.str [],.int .i64 0],.box [.int .i64 s1.2,.nils,.str [76],.str [],.int .i64 0]]⟩) (fun s1=>1<=s1.1/\s1.1<=9) (fun s1=>(9-s1.1).toNat) (((9-(1:Int)).toNat)+1) (1,0) [0,1] hz1 m0 wt sm ?_;clear hz1;intro s1 k1 hW1 hm1 hz1;simp only[y8r]at hz1;refine rS ?_;refine AWP.cond rfl (fun hb => ?_) (fun hb => ?_)
  ·simp only[hb,cond_true]at hz1
   refine rS ?_;refine AWP.cond rfl (fun hb => ?_) (fun hb => ?_)
   ·simp only[hb,cond_true]at hz1
    iterate 2 refine rS ?_
    exact⟨_,[0,1],ms,wt,hz1,sm⟩
   ·simp only[hb,cond_false]at hz1
    refine rS ?_;exact⟨_,[0,1],ms,wt,hz1,sm⟩
  ·simp only[hb,cond_false]at hz1
   refine AWP.exit ?_;refine yb ?_;subst hz1;dsimp only at hR;refine rS ?_;refine AWP.cond rfl (fun hb => ?_) (fun hb => ?_)
   ·replace hR:=ct hR
    refine rS ?_;refine AWP.ret ?_;subst hR;exact es
   ·replace hR:=cf hR
    iterate 2 refine rS ?_
    refine AWP.cond rfl (fun hb => ?_) (fun hb => ?_)
    ·replace hR:=ct hR
     iterate 2 refine rS ?_
     refine AWP.ret ?_;subst hR;exact es
    ·replace hR:=cf hR
     refine rS ?_;refine AWP.block ?_;refine AWP.nilB 1 1 2 1 (fun _=>[]) rfl rfl ?_;try simp only[ea,absV,absVL,cput,gv,sv,dn,reduceCtorEq,reduceIte,Nat.reduceBEq,Nat.reduceAdd,Nat.reduceEqDiff,Nat.reduceLT,Nat.reduceLeDiff,Nat.reduceMul,Nat.reduceSub,BEq.rfl,beq_self_eq_true,Int.reduceToNat];generalize hz2:yf (yrr a0 (s1.1,s1.2)) (((zf ((zi ((zd ((zi a0 [43,76,70,108]).1) [40]).2.1) [41]).1) [43]).length)-0) 0 ([]:List Int)=z2 at hR;refine AWP.range (yrr a0 (s1.1,s1.2)) (fun i2 s2=>⟨[(2,.ptr 0 0),(4,.ptr 1 0),(12,.bool ((zi ((zd ((zi a0 [43,76,70,108]).1) [40]).2.1) [41]).2)),(61,.ref 3 1 0 ((zf ((zi ((zd ((zi a0 [43,76,70,108]).1) [40]).2.1) [41]).1) [43]).length)),(62,.int .i64 ((zf ((zi ((zd ((zi a0 [43,76,70,108]).1) [40]).2.1) [41]).1) [43]).length:Int)),(63,.int .i64 (i2:Int))],[.box [.int .i64 0,.nils,.str [],.str [],.int .i64 0],.box [.int .i64 s1.2,.ref 2 1 0 s2.length,.str [76],.str [],.int .i64 0],.arr 2 1 s2.length (fun j=>yv (s2.getD j default)),.arr 9 1 (zf ((zi ((zd ((zi a0 [43,76,70,108]).1) [40]).2.1) [41]).1) [43]).length (fun j=>eS ((zf ((zi ((zd ((zi a0 [43,76,70,108]).1) [40]).2.1) [41]).1) [43]).getD j default))]⟩) (fun i2 s2=>s2.length<=i2) (((zf ((zi ((zd ((zi a0 [43,76,70,108]).1) [40]).2.1) [41]).1) [43]).length)) 0 ([]:List Int) [0,1,3,2] hz2 ot wt sm ?_;clear hz2;intro i2 s2 hi2 hW2 hz2;refine rS ?_;refine AWP.seq ?_;refine AWP.cond rfl (fun hb => ?_) (fun hb => ?_)
     ·have hlt2:i2<((zf ((zi ((zd ((zi a0 [43,76,70,108]).1) [40]).2.1) [41]).1) [43]).length):=ot
      rw[yk hlt2]at hz2;simp only[yrr]at hz2;iterate 3 refine rS ?_
      refine AWP.cond rfl (fun hb => ?_) (fun hb => ?_)
      ·simp only[hb,cond_true]at hz2
       refine rS ?_;refine AWP.ret ?_;subst hz2;dsimp only at hR;subst hR;exact es
      ·simp only[hb,cond_false]at hz2
       iterate 2 refine rS ?_
       exact⟨_,[0,1,5,3],hlt2,wt,hz2,sm⟩
     ·obtain rfl:i2=((zf ((zi ((zd ((zi a0 [43,76,70,108]).1) [40]).2.1) [41]).1) [43]).length):=ot
      rw[yl (Nat.le_refl _)]at hz2;subst hz2;dsimp only at hR;refine AWP.exit ?_;refine yb ?_;refine rS ?_;refine AWP.ret ?_;subst hR;exact es
 ·replace hR:=cf hR
  iterate 2 refine rS ?_
  refine AWP.block ?_;generalize hz3:yeb (yjj a0) (((9-(1:Int)).toNat)+1) (1,0)=z3 at hR;refine AWP.whileW (yjj a0) (fun s3=>⟨[(2,.ptr 0 0),(4,.ptr 1 0),(6,.bool ((zi a0 [43,76,70,108]).2)),(7,.str ((zd ((zi a0 [43,76,70,108]).1) [40]).1)),(8,.str ((zd ((zi a0 [43,76,70,108]).1) [40]).2.1)),(9,.bool ((zd ((zi a0 [43,76,70,108]).1) [40]).2.2)),(10,.int .i64 s3.1)],[.box [.int .i64 0,.nils,.str [],.str [],.int .i64 0],.box [.int .i64 s3.2,.nils,.str [],.str [],.int .i64 0]]⟩) (fun s3=>1<=s3.1/\s3.1<=9) (fun s3=>(9-s3.1).toNat) (((9-(1:Int)).toNat)+1) (1,0) [0,1] hz3 m0 wt sm ?_;clear hz3;intro s3 k3 hW3 hm3 hz3;simp only[yjj]at hz3;refine rS ?_;refine AWP.cond rfl (fun hb => ?_) (fun hb => ?_)
  ·simp only[hb,cond_true]at hz3
   refine rS ?_;refine AWP.cond rfl (fun hb => ?_) (fun hb => ?_)
   ·simp only[hb,cond_true]at hz3
    iterate 2 refine rS ?_
    exact⟨_,[0,1],ms,wt,hz3,sm⟩
   ·simp only[hb,cond_false]at hz3
    refine rS ?_;exact⟨_,[0,1],ms,wt,hz3,sm⟩
  ·simp only[hb,cond_false]at hz3
   refine AWP.exit ?_;refine yb ?_;subst hz3;dsimp only at hR;refine rS ?_;refine AWP.cond rfl (fun hb => ?_) (fun hb => ?_)
   ·replace hR:=ct hR
    refine rS ?_;refine AWP.ret ?_;subst hR;exact es
   ·replace hR:=cf hR
    iterate 2 refine rS ?_
    refine AWP.cond rfl (fun hb => ?_) (fun hb => ?_)
    ·replace hR:=ct hR
     iterate 2 refine rS ?_
     refine AWP.ret ?_;subst hR;exact es
    ·replace hR:=cf hR
     refine rS ?_;refine AWP.block ?_;refine AWP.nilB 1 1 2 1 (fun _=>[]) rfl rfl ?_;try simp only[ea,absV,absVL,cput,gv,sv,dn,reduceCtorEq,reduceIte,Nat.reduceBEq,Nat.reduceAdd,Nat.reduceEqDiff,Nat.reduceLT,Nat.reduceLeDiff,Nat.reduceMul,Nat.reduceSub,BEq.rfl,beq_self_eq_true,Int.reduceToNat];generalize hz4:yf (yqr a0 (s3.1,s3.2)) (((zf ((zi ((zd ((zi a0 [43,76,70,108]).1) [40]).2.1) [41]).1) [43]).length)-0) 0 ([]:List Int)=z4 at hR;refine AWP.range (yqr a0 (s3.1,s3.2)) (fun i4 s4=>⟨[(2,.ptr 0 0),(4,.ptr 1 0),(12,.bool ((zi ((zd ((zi a0 [43,76,70,108]).1) [40]).2.1) [41]).2)),(61,.ref 3 1 0 ((zf ((zi ((zd ((zi a0 [43,76,70,108]).1) [40]).2.1) [41]).1) [43]).length)),(62,.int .i64 ((zf ((zi ((zd ((zi a0 [43,76,70,108]).1) [40]).2.1) [41]).1) [43]).length:Int)),(63,.int .i64 (i4:Int))],[.box [.int .i64 0,.nils,.str [],.str [],.int .i64 0],.box [.int .i64 s3.2,.ref 2 1 0 s4.length,.str [],.str [],.int .i64 0],.arr 2 1 s4.length (fun j=>yv (s4.getD j default)),.arr 9 1 (zf ((zi ((zd ((zi a0 [43,76,70,108]).1) [40]).2.1) [41]).1) [43]).length (fun j=>eS ((zf ((zi ((zd ((zi a0 [43,76,70,108]).1) [40]).2.1) [41]).1) [43]).getD j default))]⟩) (fun i4 s4=>s4.length<=i4) (((zf ((zi ((zd ((zi a0 [43,76,70,108]).1) [40]).2.1) [41]).1) [43]).length)) 0 ([]:List Int) [0,1,3,2] hz4 ot wt sm ?_;clear hz4;intro i4 s4 hi4 hW4 hz4;refine rS ?_;refine AWP.seq ?_;refine AWP.cond rfl (fun hb => ?_) (fun hb => ?_)
     ·have hlt4:i4<((zf ((zi ((zd ((zi a0 [43,76,70,108]).1) [40]).2.1) [41]).1) [43]).length):=ot
      rw[yk hlt4]at hz4;simp only[yqr]at hz4;iterate 3 refine rS ?_
      refine AWP.cond rfl (fun hb => ?_) (fun hb => ?_)
      ·simp only[hb,cond_true]at hz4
       refine rS ?_;refine AWP.ret ?_;subst hz4;dsimp only at hR;subst hR;exact es
      ·simp only[hb,cond_false]at hz4
       iterate 2 refine rS ?_
       exact⟨_,[0,1,5,3],hlt4,wt,hz4,sm⟩
     ·obtain rfl:i4=((zf ((zi ((zd ((zi a0 [43,76,70,108]).1) [40]).2.1) [41]).1) [43]).length):=ot
      rw[yl (Nat.le_refl _)]at hz4;subst hz4;dsimp only at hR;refine AWP.exit ?_;refine yb ?_;refine rS ?_;refine AWP.ret ?_;subst hR;exact es
end N109
def D_zq : DF
 | [x0]=>some (.tup [.agg (ypb ((zq (rdS x0)).1)),.bool ((zq (rdS x0)).2)],false,[wS x0,(rdS x0).length<1099511627776,(rdS x0).length<=1048576])
 | _=>none
theorem ye6:OkD Tryz.prog 109 D_zq:=by unfold D_zq;exact dk N109.den
def zge (a0:(List UInt8)):(Int×Bool):=
 (bif (!((zd a0 [46]).2.2))then(IntKind.wrap .i64 ((IntKind.wrap .i64 (10 * ((zl ((zd a0 [46]).1)).1)))+((zl [48]).1)),(((((zl ((zd a0 [46]).1)).2 && (zl [48]).2) && (zg ((zl ((zd a0 [46]).1)).1) 0 1200)) && (zg ((zl [48]).1) 0 9)) && ((zfe (IntKind.wrap .i64 ((IntKind.wrap .i64 (10 * ((zl ((zd a0 [46]).1)).1)))+((zl [48]).1)))) == a0)))else(IntKind.wrap .i64 ((IntKind.wrap .i64 (10 * ((zl ((zd a0 [46]).1)).1)))+((zl ((zd a0 [46]).2.1)).1)),(((((zl ((zd a0 [46]).1)).2 && (zl ((zd a0 [46]).2.1)).2) && (zg ((zl ((zd a0 [46]).1)).1) 0 1200)) && (zg ((zl ((zd a0 [46]).2.1)).1) 0 9)) && ((zfe (IntKind.wrap .i64 ((IntKind.wrap .i64 (10 * ((zl ((zd a0 [46]).1)).1)))+((zl ((zd a0 [46]).2.1)).1)))) == a0))))
namespace N110
theorem DD:DOk Tryz.prog (Go.Ab.DD [(101,dP D_zfe),(49,dP D_zd),(66,dP D_zl),(81,dP D_zg)]):=ya y3u.e <| ya yke.e <| ya y9f.e <| ya yhc.e <| yd _
theorem dn:type_of% (And.intro @D_zfe.eq_1 <| And.intro @D_zd.eq_1 <| And.intro @D_zl.eq_1 <| @D_zg.eq_1):=by and_intros<;>intros<;>rfl
theorem ol:type_of% (@zg.eq_1):=@zg.eq_1
theorem gr {p:Prop} (h:p:=by(grind [ykc]);first|done|fail):p:=h
set_option maxHeartbeats 400000 in
set_option maxRecDepth 20000 in
theorem den (a0:(List UInt8)) (hb0:a0.length<1099511627776) (hp0:a0.length<=1048576):Den Tryz.prog 110 [.str a0] (.tup [.int .i64 ((zge a0).1),.bool ((zge a0).2)]):=by
 generalize hR:zge a0=r;unfold zge at hR;refine di Tryz.func110 Tryz.ntmps110 Tryz.results110 ?_;intro c hL hc hk;obtain⟨hL0,_⟩:=hL;have hw0:a0.length<9223372036854775808:=Nat.lt_succ_of_le hL0;clear hL0;simp only[pars,Nat.zero_add];iterate 3 refine rS ?_
 refine AWP.cond rfl (fun hb => ?_) (fun hb => ?_)
 ·replace hR:=ct hR
  iterate 5 refine rS ?_
  refine AWP.ret ?_;subst hR;exact es
 ·replace hR:=cf hR
  iterate 4 refine rS ?_
  refine AWP.ret ?_;subst hR;exact es
end N110
def D_zge : DF
 | [x0]=>some (.tup [.int .i64 ((zge (rdS x0)).1),.bool ((zge (rdS x0)).2)],false,[wS x0,(rdS x0).length<1099511627776,(rdS x0).length<=1048576])
 | _=>none
theorem ys2:OkD Tryz.prog 110 D_zge:=by unfold D_zge;exact dk N110.den
end Go.Ab
