/- A part of a proof: walks of functions and lemmas of our own. No conditions. -/
import Derived.Test.YtopoomikfjodkaaGreatDoorQAt
import Derived.Test.YtopoomikfjodkaaGreatDoorQAo
import Derived.Test.YtopoomikfjodkaaGreatDoorQAl
set_option linter.unusedSectionVars false
set_option linter.unusedVariables false
set_option linter.unusedSimpArgs false
set_option maxHeartbeats 1000000
namespace Go.Ab
open Go Go.Proofs
theorem ycg (a:Int):zmb a=(y4c.getD (IntKind.wrap .u8 (a-65)).toNat default).map (fun c=>if c=46 then(5:Int)else 15):=by
 have h:=yxc (ynl a) (fun j=>[if((y4c.getD (IntKind.wrap .u8 (a-65)).toNat default).getD j 0)=46 then(5:Int)else 15]) (y4c.getD (IntKind.wrap .u8 (a-65)).toNat default).length 0 [] (fun j s _ _=>by
  show(bif ((((y4c.getD (IntKind.wrap .u8 (a-65)).toNat default).getD j 0).toNat:Int) == 46)then(.ok (s++[5]):Except (List Int) (List Int))else .ok (s++[15]))=_
  generalize (y4c.getD (IntKind.wrap .u8 (a-65)).toNat default).getD j 0=c
  by_cases hc:c=46
  ·subst hc;rfl
  ·have:((c.toNat:Int) == 46)=false:=by
    rw[beq_eq_false_iff_ne]
    intro h
    exact hc (UInt8.toNat_inj.1 (by show c.toNat=46;omega))
   rw[this,if_neg hc];rfl)
 have e:zmb a=(match yd (ynl a) (y4c.getD (IntKind.wrap .u8 (a-65)).toNat default).length 0 ([]:List Int)with|.error e=>e|.ok s1=>s1):=rfl
 rw[e,h]
 simp only[List.nil_append]
 exact yhf _ 0 (fun c=>if c=46 then(5:Int)else 15)
theorem yho (a:Int):(zmb a).length≤4:=by
 rw[ycg,List.length_map]
 exact y6j _
end Go.Ab

namespace Go.Ab
open Go Go.Proofs
def zse (a0:Character):Bool:=
 ((a0.Kind == 1) || (((a0.Kind == 6) || (a0.Kind == 7)) && ((a0.Group.length:Int) == 0)))
namespace N275
theorem DD:DOk Tryz.prog (Go.Ab.DD []):=ye _
theorem den (a0:Character)  : Den Tryz.prog 275 [.ep (yi a0)] (.bool (zse a0)):=by
 generalize hR:zse a0=r
 unfold zse at hR
 refine di Tryz.func275 Tryz.ntmps275 Tryz.results275 ?_
 intro c hL hc hk
 obtain⟨hL0,_⟩:=hL
 have hw0:bwCharacter a0:=yp a0 hL0
 clear hL0
 simp only[pars,Nat.zero_add]
 iterate 2 refine rS ?_
 refine AWP.ret ?_
 subst hR
 exact es
end N275
def D_zse : DF
 | [x0]=>some (.bool (zse (rdP yc x0)),false,[wP yi yc x0])
 | _=>none
theorem yzs:OkD Tryz.prog 275 D_zse:=by unfold D_zse;exact dk N275.den
end Go.Ab

namespace Go.Ab
open Go Go.Proofs
def y7p (a0:(List Int)) (i1:Nat) (s1:Int):Except (Int) (Int):=
 .ok (IntKind.wrap .i64 (s1+(a0.getD i1 default)))
def zqd (a0:(List Int)):Int:=
 (match yd (y7p a0) (a0.length-0) 0 0 with|.error e=>e|.ok s1=>s1)
namespace N328
theorem DD:DOk Tryz.prog (Go.Ab.DD []):=ye _
theorem den (a0:(List Int))  : Den Tryz.prog 328 [encL 1 yt a0] (.int .i64 (zqd a0)):=by
 generalize hR:zqd a0=r
 unfold zqd at hR
 refine di Tryz.func328 Tryz.ntmps328 Tryz.results328 ?_
 intro c hL hc hk
 obtain⟨hL0,_⟩:=hL
 have hw0:a0.length<9223372036854775808:=Nat.lt_succ_of_le (yf hL0).1
 clear hL0
 simp only[pars,Nat.zero_add]
 iterate 3 refine rS ?_
 refine AWP.block ?_
 generalize hz1:yd (y7p a0) (a0.length-0) 0 0=z1 at hR
 refine AWP.range (y7p a0) (fun i1 s1=>⟨[(0,encL 1 yt a0),(3,.int .i64 s1),(4,.int .i64 (i1:Int))],[]⟩) (fun i1 s1=>True) (a0.length) 0 0 [] hz1 ot wt sm ?_
 clear hz1
 intro i1 s1 hi1 hW1 hz1
 refine rS ?_
 refine AWP.cond rfl (fun hb => ?_) (fun hb => ?_)
 ·have hlt1:i1<a0.length:=ot
  rw[yh hlt1]at hz1;simp only[y7p]at hz1
  iterate 2 refine rS ?_
  exact⟨_,[],hlt1,wt,hz1,sm⟩
 ·obtain rfl:i1=a0.length:=ot
  rw[yg (Nat.le_refl _)]at hz1;subst hz1;dsimp only at hR
  refine AWP.exit ?_;refine yb ?_
  refine rS ?_
  refine AWP.ret ?_
  subst hR
  exact es
end N328
def D_zqd : DF
 | [x0]=>some (.int .i64 (zqd (rdL y0b x0)),false,[wL 1 yt y0b x0])
 | _=>none
theorem yp3:OkD Tryz.prog 328 D_zqd:=by unfold D_zqd;exact dk N328.den
end Go.Ab

namespace Go.Ab
open Go Go.Proofs
def zyb (a0:Int):Int:=
 (bif (a0 == 2)then 10 else(bif (a0 == 4)then 15 else(bif (a0 == 5)then 20 else(bif (a0 == 7)then 3 else 5))))
namespace N368
theorem DD:DOk Tryz.prog (Go.Ab.DD []):=ye _
theorem den (a0:Int)  : Den Tryz.prog 368 [.int .i64 a0] (.int .i64 (zyb a0)):=by
 generalize hR:zyb a0=r
 unfold zyb at hR
 refine di Tryz.func368 Tryz.ntmps368 Tryz.results368 ?_
 intro c hL hc hk
 clear hL
 simp only[pars,Nat.zero_add]
 iterate 3 refine rS ?_
 refine AWP.cond rfl (fun hb => ?_) (fun hb => ?_)
 ·replace hR:=ct hR
  refine rS ?_
  refine AWP.ret ?_
  subst hR
  exact es
 ·replace hR:=cf hR
  refine rS ?_
  refine AWP.cond rfl (fun hb => ?_) (fun hb => ?_)
  ·replace hR:=ct hR
   refine rS ?_
   refine AWP.ret ?_
   subst hR
   exact es
  ·replace hR:=cf hR
   refine rS ?_
   refine AWP.cond rfl (fun hb => ?_) (fun hb => ?_)
   ·replace hR:=ct hR
    refine rS ?_
    refine AWP.ret ?_
    subst hR
    exact es
   ·replace hR:=cf hR
    refine rS ?_
    refine AWP.cond rfl (fun hb => ?_) (fun hb => ?_)
    ·replace hR:=ct hR
     refine rS ?_
     refine AWP.ret ?_
     subst hR
     exact es
    ·replace hR:=cf hR
     refine rS ?_
     refine AWP.ret ?_
     subst hR
     exact es
end N368
def D_zyb : DF
 | [x0]=>some (.int .i64 (zyb (rdI x0)),false,[wI .i64 x0])
 | _=>none
theorem yiu:OkD Tryz.prog 368 D_zyb:=by unfold D_zyb;exact dk N368.den
end Go.Ab

namespace Go.Ab
open Go Go.Proofs
def zvd (a0:Int):Int:=
 (bif (a0 == 2)then 10 else(bif (a0 == 5)then 20 else(bif (a0 == 7)then 2 else 5)))
namespace N369
theorem DD:DOk Tryz.prog (Go.Ab.DD []):=ye _
theorem den (a0:Int)  : Den Tryz.prog 369 [.int .i64 a0] (.int .i64 (zvd a0)):=by
 generalize hR:zvd a0=r
 unfold zvd at hR
 refine di Tryz.func369 Tryz.ntmps369 Tryz.results369 ?_
 intro c hL hc hk
 clear hL
 simp only[pars,Nat.zero_add]
 iterate 3 refine rS ?_
 refine AWP.cond rfl (fun hb => ?_) (fun hb => ?_)
 ·replace hR:=ct hR
  refine rS ?_
  refine AWP.ret ?_
  subst hR
  exact es
 ·replace hR:=cf hR
  refine rS ?_
  refine AWP.cond rfl (fun hb => ?_) (fun hb => ?_)
  ·replace hR:=ct hR
   refine rS ?_
   refine AWP.ret ?_
   subst hR
   exact es
  ·replace hR:=cf hR
   refine rS ?_
   refine AWP.cond rfl (fun hb => ?_) (fun hb => ?_)
   ·replace hR:=ct hR
    refine rS ?_
    refine AWP.ret ?_
    subst hR
    exact es
   ·replace hR:=cf hR
    refine rS ?_
    refine AWP.ret ?_
    subst hR
    exact es
end N369
def D_zvd : DF
 | [x0]=>some (.int .i64 (zvd (rdI x0)),false,[wI .i64 x0])
 | _=>none
theorem yvz:OkD Tryz.prog 369 D_zvd:=by unfold D_zvd;exact dk N369.den
end Go.Ab

namespace Go.Ab
open Go Go.Proofs
def zze (a0:Character):Int:=
 (bif (a0.Kind == 6)then 20 else(bif (a0.Kind == 7)then 10 else(bif (a0.Kind == 8)then 30 else(bif decide (1<(a0.Group.length:Int))then IntKind.wrap .i64 ((IntKind.wrap .i64 ((zyb a0.Kind)+5))+20)else IntKind.wrap .i64 ((zyb a0.Kind)+5)))))
namespace N330
theorem DD:DOk Tryz.prog (Go.Ab.DD [(368,dP D_zyb)]):=ya yiu.e <| ye _
theorem dn:type_of% (@D_zyb.eq_1):=by and_intros<;>intros<;>rfl
theorem den (a0:Character)  : Den Tryz.prog 330 [.ep (yi a0)] (.int .i64 (zze a0)):=by
 generalize hR:zze a0=r
 unfold zze at hR
 refine di Tryz.func330 Tryz.ntmps330 Tryz.results330 ?_
 intro c hL hc hk
 obtain⟨hL0,_⟩:=hL
 have hw0:bwCharacter a0:=yp a0 hL0
 clear hL0
 simp only[pars,Nat.zero_add]
 iterate 3 refine rS ?_
 refine AWP.cond rfl (fun hb => ?_) (fun hb => ?_)
 ·replace hR:=ct hR
  refine rS ?_
  refine AWP.ret ?_
  subst hR
  exact es
 ·replace hR:=cf hR
  refine rS ?_
  refine AWP.cond rfl (fun hb => ?_) (fun hb => ?_)
  ·replace hR:=ct hR
   refine rS ?_
   refine AWP.ret ?_
   subst hR
   exact es
  ·replace hR:=cf hR
   refine rS ?_
   refine AWP.cond rfl (fun hb => ?_) (fun hb => ?_)
   ·replace hR:=ct hR
    refine rS ?_
    refine AWP.ret ?_
    subst hR
    exact es
   ·replace hR:=cf hR
    iterate 2 refine rS ?_
    refine AWP.cond rfl (fun hb => ?_) (fun hb => ?_)
    ·replace hR:=ct hR
     iterate 2 refine rS ?_
     refine AWP.ret ?_
     subst hR
     exact es
    ·replace hR:=cf hR
     refine rS ?_
     refine AWP.ret ?_
     subst hR
     exact es
end N330
def D_zze : DF
 | [x0]=>some (.int .i64 (zze (rdP yc x0)),false,[wP yi yc x0])
 | _=>none
theorem yr3:OkD Tryz.prog 330 D_zze:=by unfold D_zze;exact dk N330.den
end Go.Ab

namespace Go.Ab
open Go Go.Proofs
def y3o (a0:(List Sector)) (i1:Nat) (s1:List UInt8) (i2:Nat) (s2:List UInt8):Except (Sum ((List UInt8)) (List UInt8)) (List UInt8):=
 (bif (((a0.getD i2 default).Color) == ([[87],[82],[71],[89]].getD i1 default))then .error (.inr (s2++([[87],[82],[71],[89]].getD i1 default)))else .ok s2)
def ysl (a0:(List Sector)) (i1:Nat) (s1:List UInt8):Except ((List UInt8)) (List UInt8):=
 (match yd (y3o a0 i1 s1) (a0.length-0) 0 s1 with|.error (.inl e)=>.error e|.error (.inr s2)=>.ok s2|.ok s2=>.ok s2)
def zkc (a0:(List Sector)):(List UInt8):=
 (match yd (ysl a0) (4-0) 0 []with|.error e=>e|.ok s1=>s1)
namespace N201
theorem DD:DOk Tryz.prog (Go.Ab.DD []):=ye _
theorem o0 {p:Prop} (h:p:=by(first|(have h4:=hq4 i1;have h1:=hW1;have h2:=hW2;and_intros<;>omega));first|done|fail):p:=h
theorem lx {p:Prop} (h:p:=by(exact lxx);first|done|fail):p:=h
theorem den (a0:(List Sector)) (hb0:a0.length<1099511627776) (hb1:∀ v∈a0,bdSector v):Den Tryz.prog 201 [encL 3 ym a0] (.str (zkc a0)):=by
 generalize hR:zkc a0=r
 unfold zkc at hR
 refine di Tryz.func201 Tryz.ntmps201 Tryz.results201 ?_
 intro c hL hc hk
 obtain⟨hL0,_⟩:=hL
 have hw0:a0.length<9223372036854775808:=Nat.lt_succ_of_le (yf hL0).1
 have hw1:∀ v∈a0,bwSector v:=fun v hv=>yw v ((yf hL0).2 v hv)
 clear hL0
 simp only[pars,Nat.zero_add]
 have hq4:∀ i:Nat,(([[87],[82],[71],[89]]:List (List UInt8)).getD i default).length≤1:=fun i=>by rcases i with _|_|_|_|i<;>first|exact Nat.le_refl _|exact Nat.zero_le _
 iterate 4 refine rS ?_
 refine AWP.block ?_
 generalize hz1:yd (ysl a0) (4-0) 0 []=z1 at hR
 refine AWP.range (ysl a0) (fun i1 s1=>⟨[(0,encL 3 ym a0),(3,.str s1),(4,.ref 0 1 0 4),(5,.int .i64 (i1:Int))],[.arr 9 1 [[87],[82],[71],[89]].length (fun j=>eS ([[87],[82],[71],[89]].getD j default))]⟩) (fun i1 s1=>s1.length≤i1) (4) 0 [] [0] hz1 ot (by(simp)) sm ?_
 clear hz1
 intro i1 s1 hi1 hW1 hz1
 refine rS ?_
 refine AWP.cond rfl (fun hb => ?_) (fun hb => ?_)
 ·have hlt1:i1<4:=ot
  rw[yh hlt1]at hz1;simp only[ysl]at hz1
  refine rS ?_
  refine AWP.block ?_
  generalize hz2:yd (y3o a0 i1 s1) (a0.length-0) 0 s1=z2 at hz1
  refine AWP.range (y3o a0 i1 s1) (fun i2 s2=>⟨[(0,encL 3 ym a0),(3,.str s2),(4,.ref 0 1 0 4),(5,.int .i64 (i1:Int)),(6,.int .i64 (i2:Int))],[.arr 9 1 [[87],[82],[71],[89]].length (fun j=>eS ([[87],[82],[71],[89]].getD j default))]⟩) (fun i2 s2=>s2.length≤i1) (a0.length) 0 s1 [0] hz2 ot (by(exact hW1)) sm ?_
  clear hz2
  intro i2 s2 hi2 hW2 hz2
  refine rS ?_
  refine AWP.cond rfl (fun hb => ?_) (fun hb => ?_)
  ·have hlt2:i2<a0.length:=ot
   rw[yh hlt2]at hz2;simp only[y3o]at hz2
   refine rD 9 ?_
   refine AWP.cond rfl (fun hb => ?_) (fun hb => ?_)
   ·simp only[hb,cond_true]at hz2
    refine rS ?_
    refine AWP.exit ?_
    refine y2e rfl ?_
    refine yb ?_
    subst hz2;dsimp only at hz1
    refine rS ?_
    exact⟨_,[0],hlt1,by(have h4:=hq4 i1;simp only[ln]at *;omega),hz1,sm⟩
   ·simp only[hb,cond_false]at hz2
    refine rS ?_
    exact⟨_,[0],hlt2,by(first|exact hW2|assumption),hz2,sm⟩
  ·obtain rfl:i2=a0.length:=ot
   rw[yg (Nat.le_refl _)]at hz2;subst hz2;dsimp only at hz1
   refine AWP.exit ?_;refine yb ?_
   refine rS ?_
   exact⟨_,[0],hlt1,by(have h4:=hq4 i1;simp only[ln]at *;omega),hz1,sm⟩
 ·obtain rfl:i1=4:=ot
  rw[yg (Nat.le_refl _)]at hz1;subst hz1;dsimp only at hR
  refine AWP.exit ?_;refine yb ?_
  refine rS ?_
  refine AWP.ret ?_
  subst hR
  exact es
end N201
def D_zkc : DF
 | [x0]=>some (.str (zkc (rdL yq x0)),false,[wL 3 ym yq x0,(rdL yq x0).length<1099511627776,∀ v∈(rdL yq x0),bdSector v])
 | _=>none
theorem yv1:OkD Tryz.prog 201 D_zkc:=by unfold D_zkc;exact dk N201.den
end Go.Ab

namespace Go.Ab
open Go Go.Proofs
def zcc (a0:Point):Bool:=
 ((zl a0.X 0 200000) && (zl a0.Y 0 200000))
namespace N196
theorem DD:DOk Tryz.prog (Go.Ab.DD [(170,dP D_zl)]):=ya ylg.e <| ye _
theorem dn:type_of% (@D_zl.eq_1):=by and_intros<;>intros<;>rfl
theorem ol:type_of% (@zl.eq_1):=@zl.eq_1
theorem den (a0:Point)  : Den Tryz.prog 196 [.agg (y3c a0)] (.bool (zcc a0)):=by
 generalize hR:zcc a0=r
 unfold zcc at hR
 refine di Tryz.func196 Tryz.ntmps196 Tryz.results196 ?_
 intro c hL hc hk
 clear hL
 simp only[pars,Nat.zero_add]
 iterate 2 refine rS ?_
 refine AWP.ret ?_
 subst hR
 exact es
end N196
def D_zcc : DF
 | [x0]=>some (.bool (zcc (rdG yye x0)),false,[wG y3c yye x0])
 | _=>none
theorem yus:OkD Tryz.prog 196 D_zcc:=by unfold D_zcc;exact dk N196.den
end Go.Ab

namespace Go.Ab
open Go Go.Proofs
def zmd (a0:Character):Bool:=
 (((((a0.Kind == 0) && ((a0.Group.length:Int) == 0)) && (a0.Letter == [])) && (a0.Colors == [])) && (a0.Period == 0))
namespace N198
theorem DD:DOk Tryz.prog (Go.Ab.DD []):=ye _
theorem den (a0:Character)  : Den Tryz.prog 198 [.ep (yi a0)] (.bool (zmd a0)):=by
 generalize hR:zmd a0=r
 unfold zmd at hR
 refine di Tryz.func198 Tryz.ntmps198 Tryz.results198 ?_
 intro c hL hc hk
 obtain⟨hL0,_⟩:=hL
 have hw0:bwCharacter a0:=yp a0 hL0
 clear hL0
 simp only[pars,Nat.zero_add]
 iterate 2 refine rS ?_
 refine AWP.ret ?_
 subst hR
 exact es
end N198
def D_zmd : DF
 | [x0]=>some (.bool (zmd (rdP yc x0)),false,[wP yi yc x0])
 | _=>none
theorem yf0:OkD Tryz.prog 198 D_zmd:=by unfold D_zmd;exact dk N198.den
end Go.Ab

namespace Go.Ab
open Go Go.Proofs
def zdg (a0:Aid):Bool:=
 (a0.Light.Kind != 0)
end Go.Ab

namespace Go.Ab
open Go Go.Proofs
def zhb  : (List (List UInt8)):=
 ([[110,111,110,101],[108,101,102,116],[114,105,103,104,116],[110,111,114,116,104],[101,97,115,116],[115,111,117,116,104],[119,101,115,116],[100,97,110,103,101,114],[115,97,102,101],[115,112,101,99,105,97,108]]:List (List UInt8))
namespace N333
theorem DD:DOk Tryz.prog (Go.Ab.DD []):=ye _
theorem lx {p:Prop} (h:p:=by(exact lxx);first|done|fail):p:=h
theorem den   : Den Tryz.prog 333 [] (ownL 9 1 eS (zhb)):=by
 generalize hR:zhb=r
 unfold zhb at hR
 refine di Tryz.func333 Tryz.ntmps333 Tryz.results333 ?_
 intro c hL hc hk
 clear hL
 simp only[pars,Nat.zero_add]
 iterate 2 refine rS ?_
 refine AWP.ret ?_
 subst hR
 exact es
end N333
def D_zhb : DF
 | []=>some (ownL 9 1 eS zhb,false,[])
 | _=>none
def Dz_zhb : DF
 | []=>some (ownL 9 1 eS zhb,true,[])
 | _=>none
theorem yzu:OkD Tryz.prog 333 D_zhb:=by unfold D_zhb;exact dk N333.den
theorem y3y:OkD Tryz.prog 333 Dz_zhb:=by unfold Dz_zhb;exact dk N333.den
end Go.Ab

namespace Go.Ab
open Go Go.Proofs
def zm  : (List (List UInt8)):=
 ([[],[70],[79,99],[73,115,111],[70,108],[76,70,108],[81],[86,81],[77,111]]:List (List UInt8))
namespace N279
theorem DD:DOk Tryz.prog (Go.Ab.DD []):=ye _
theorem lx {p:Prop} (h:p:=by(exact lxx);first|done|fail):p:=h
theorem den   : Den Tryz.prog 279 [] (ownL 9 1 eS (zm)):=by
 generalize hR:zm=r
 unfold zm at hR
 refine di Tryz.func279 Tryz.ntmps279 Tryz.results279 ?_
 intro c hL hc hk
 clear hL
 simp only[pars,Nat.zero_add]
 iterate 2 refine rS ?_
 refine AWP.ret ?_
 subst hR
 exact es
end N279
def D_zm : DF
 | []=>some (ownL 9 1 eS zm,false,[])
 | _=>none
def Dz_zm : DF
 | []=>some (ownL 9 1 eS zm,true,[])
 | _=>none
theorem ysx:OkD Tryz.prog 279 D_zm:=by unfold D_zm;exact dk N279.den
theorem yw1:OkD Tryz.prog 279 Dz_zm:=by unfold Dz_zm;exact dk N279.den
end Go.Ab

namespace Go.Ab
open Go Go.Proofs
def yvp (a0:Int) (s1:Int×List Int):Except (Sum ((List UInt8)) (Int×List Int)) (Int×List Int):=
 (bif (s1.1 != 0)then(bif decide ((s1.1.tmod 10)<0)then .ok (IntKind.wrap .i64 (s1.1.tdiv 10),s1.2++([IntKind.wrap .u8 (IntKind.wrap .i64 (48+(IntKind.wrap .i64 (0-(s1.1.tmod 10)))))]:List Int))else .ok (IntKind.wrap .i64 (s1.1.tdiv 10),s1.2++([IntKind.wrap .u8 (IntKind.wrap .i64 (48+(s1.1.tmod 10)))]:List Int)))else .error (.inr (s1.1,s1.2)))
def yyr (a0:Int) (s1:Int×List Int) (s2:Int×List Int):Except (Sum ((List UInt8)) (Int×List Int)) (Int×List Int):=
 (bif decide (0≤s2.1)then .ok (IntKind.wrap .i64 (s2.1-1),s2.2++([((s1.2++([45]:List Int)).getD ((s2.1).toNat) default)]:List Int))else .error (.inr (s2.1,s2.2)))
def y0r (a0:Int) (s1:Int×List Int) (s3:Int×List Int):Except (Sum ((List UInt8)) (Int×List Int)) (Int×List Int):=
 (bif decide (0≤s3.1)then .ok (IntKind.wrap .i64 (s3.1-1),s3.2++([(s1.2.getD ((s3.1).toNat) default)]:List Int))else .error (.inr (s3.1,s3.2)))
def zi (a0:Int):(List UInt8):=
 (bif (a0 == 0)then[48]else(match y7 (yvp a0) (((a0).natAbs)+1) (a0,([]:List Int))with|.error (.inl e)=>e|.error (.inr s1)=>(bif decide (a0<0)then(match y7 (yyr a0 s1) ((((IntKind.wrap .i64 ((s1.2.length+1:Int)-1))+1).toNat)+1) (IntKind.wrap .i64 ((s1.2.length+1:Int)-1),([]:List Int))with|.error (.inl e)=>e|.error (.inr s2)=>(s2.2.map fun z=>UInt8.ofNat z.toNat)|.ok _=>default)else(match y7 (y0r a0 s1) ((((IntKind.wrap .i64 ((s1.2.length:Int)-1))+1).toNat)+1) (IntKind.wrap .i64 ((s1.2.length:Int)-1),([]:List Int))with|.error (.inl e)=>e|.error (.inr s3)=>(s3.2.map fun z=>UInt8.ofNat z.toNat)|.ok _=>default))|.ok _=>default))
namespace N166
theorem DD:DOk Tryz.prog (Go.Ab.DD []):=ye _
theorem den (a0:Int) (hp0 : -1000000000000≤a0) (hp1:a0≤1000000000000):Den Tryz.prog 166 [.int .i64 a0] (.str (zi a0)):=by
 generalize hR:zi a0=r
 unfold zi at hR
 refine di Tryz.func166 Tryz.ntmps166 Tryz.results166 ?_
 intro c hL hc hk
 clear hL
 simp only[pars,Nat.zero_add]
 iterate 2 refine rS ?_
 refine AWP.cond rfl (fun hb => ?_) (fun hb => ?_)
 ·replace hR:=ct hR
  refine rS ?_
  refine AWP.ret ?_
  subst hR
  exact es
 ·replace hR:=cf hR
  iterate 2 refine rS ?_
  refine AWP.block ?_
  generalize hz1:y7 (yvp a0) (((a0).natAbs)+1) (a0,([]:List Int))=z1 at hR
  refine AWP.whileW (yvp a0) (fun s1=>⟨[(0,.int .i64 a0),(3,.ref 0 1 0 s1.2.length),(4,.int .i64 s1.1)],[.arr 5 1 s1.2.length (fun j=>eIu8 (s1.2.getD j default))]⟩) (fun s1 => -1000000000000≤s1.1∧s1.1≤1000000000000∧s1.2.length+(s1.1).natAbs≤1000000000000) (fun s1=>(s1.1).natAbs) (((a0).natAbs)+1) (a0,([]:List Int)) [0] hz1 m0 wt sm ?_
  clear hz1
  intro s1 k1 hW1 hm1 hz1
  simp only[yvp]at hz1
  refine rS ?_
  refine AWP.cond rfl (fun hb => ?_) (fun hb => ?_)
  ·simp only[hb,cond_true]at hz1
   iterate 2 refine rS ?_
   refine AWP.cond rfl (fun hb => ?_) (fun hb => ?_)
   ·simp only[hb,cond_true]at hz1
    iterate 3 refine rS ?_
    exact⟨_,[2],by(have h10:=yrk s1.1;simp only[ob,ln,ol]at *;omega),by(have h10:=yrk s1.1;refine⟨?_,?_,?_⟩<;>simp only[ob,ln,ol]at * <;> omega),hz1,sm⟩
   ·simp only[hb,cond_false]at hz1
    iterate 2 refine rS ?_
    exact⟨_,[2],by(have h10:=yrk s1.1;simp only[ob,ln,ol]at *;omega),by(have h10:=yrk s1.1;refine⟨?_,?_,?_⟩<;>simp only[ob,ln,ol]at * <;> omega),hz1,sm⟩
  ·simp only[hb,cond_false]at hz1
   refine AWP.exit ?_
   refine yb ?_
   subst hz1;dsimp only at hR
   refine rS ?_
   refine AWP.cond rfl (fun hb => ?_) (fun hb => ?_)
   ·replace hR:=ct hR
    iterate 3 refine rS ?_
    refine AWP.block ?_
    generalize hz2:y7 (yyr a0 (s1.1,s1.2)) ((((IntKind.wrap .i64 ((s1.2.length+1:Int)-1))+1).toNat)+1) (IntKind.wrap .i64 ((s1.2.length+1:Int)-1),([]:List Int))=z2 at hR
    refine AWP.whileW (yyr a0 (s1.1,s1.2)) (fun s2=>⟨[(3,.ref 0 1 0 (s1.2.length+1)),(6,.ref 1 1 0 s2.2.length),(7,.int .i64 s2.1)],[.arr 5 1 (s1.2++([45]:List Int)).length (fun j=>eIu8 ((s1.2++([45]:List Int)).getD j default)),.arr 5 1 s2.2.length (fun j=>eIu8 (s2.2.getD j default))]⟩) (fun s2 => -1≤s2.1∧s2.1≤s1.2.length∧s2.1≤1000000000000∧s2.2.length+(s2.1+1).toNat≤1000000000001) (fun s2=>(s2.1+1).toNat) ((((IntKind.wrap .i64 ((s1.2.length+1:Int)-1))+1).toNat)+1) (IntKind.wrap .i64 ((s1.2.length+1:Int)-1),([]:List Int)) [2,3] hz2 m0 wt sm ?_
    clear hz2
    intro s2 k2 hW2 hm2 hz2
    simp only[yyr]at hz2
    refine rS ?_
    refine AWP.cond rfl (fun hb => ?_) (fun hb => ?_)
    ·simp only[hb,cond_true]at hz2
     iterate 2 refine rS ?_
     exact⟨_,[0,3],ms,wt,hz2,sm⟩
    ·simp only[hb,cond_false]at hz2
     refine AWP.exit ?_
     refine yb ?_
     subst hz2;dsimp only at hR
     refine rS ?_
     refine AWP.ret ?_
     subst hR
     exact es
   ·replace hR:=cf hR
    iterate 2 refine rS ?_
    refine AWP.block ?_
    generalize hz3:y7 (y0r a0 (s1.1,s1.2)) ((((IntKind.wrap .i64 ((s1.2.length:Int)-1))+1).toNat)+1) (IntKind.wrap .i64 ((s1.2.length:Int)-1),([]:List Int))=z3 at hR
    refine AWP.whileW (y0r a0 (s1.1,s1.2)) (fun s3=>⟨[(3,.ref 0 1 0 s1.2.length),(6,.ref 1 1 0 s3.2.length),(7,.int .i64 s3.1)],[.arr 5 1 s1.2.length (fun j=>eIu8 (s1.2.getD j default)),.arr 5 1 s3.2.length (fun j=>eIu8 (s3.2.getD j default))]⟩) (fun s3 => -1≤s3.1∧s3.1<s1.2.length∧s3.1≤1000000000000∧s3.2.length+(s3.1+1).toNat≤1000000000001) (fun s3=>(s3.1+1).toNat) ((((IntKind.wrap .i64 ((s1.2.length:Int)-1))+1).toNat)+1) (IntKind.wrap .i64 ((s1.2.length:Int)-1),([]:List Int)) [0,1] hz3 m0 wt sm ?_
    clear hz3
    intro s3 k3 hW3 hm3 hz3
    simp only[y0r]at hz3
    refine rS ?_
    refine AWP.cond rfl (fun hb => ?_) (fun hb => ?_)
    ·simp only[hb,cond_true]at hz3
     iterate 2 refine rS ?_
     exact⟨_,[0,3],ms,wt,hz3,sm⟩
    ·simp only[hb,cond_false]at hz3
     refine AWP.exit ?_
     refine yb ?_
     subst hz3;dsimp only at hR
     refine rS ?_
     refine AWP.ret ?_
     subst hR
     exact es
end N166
def D_zi : DF
 | [x0]=>some (.str (zi (rdI x0)),false,[wI .i64 x0,-1000000000000≤(rdI x0),(rdI x0)≤1000000000000])
 | _=>none
theorem yur:OkD Tryz.prog 166 D_zi:=by unfold D_zi;exact dk N166.den
end Go.Ab









namespace Go.Ab
open Go Go.Proofs
def yov (a0:(List UInt8)) (a1:Int) (i1:Nat) (s1:Int×List (List UInt8)):Except ((List (List UInt8))) (Int×List (List UInt8)):=
 (bif (((a0.getD i1 0).toNat:Int) == a1)then .ok (IntKind.wrap .i64 ((i1:Int)+1),s1.2++[(a0.take i1).drop ((s1.1).toNat)])else .ok (s1.1,s1.2))
def za (a0:(List UInt8)) (a1:Int):(List (List UInt8)):=
 (match yd (yov a0 a1) (a0.length-0) 0 (0,([]:List (List UInt8)))with|.error e=>e|.ok s1=>s1.2++[(a0.take a0.length).drop ((s1.1).toNat)])
namespace N165
theorem DD:DOk Tryz.prog (Go.Ab.DD []):=ye _
theorem den (a0:(List UInt8)) (a1:Int) (hb0:a0.length<1099511627776) (hp0:a0.length≤1048576):Den Tryz.prog 165 [.str a0,.int .u8 a1] (ownL 9 1 eS (za a0 a1)):=by
 generalize hR:za a0 a1=r
 unfold za at hR
 refine di Tryz.func165 Tryz.ntmps165 Tryz.results165 ?_
 intro c hL hc hk
 obtain⟨hL0,hL1,_⟩:=hL
 have hw0:a0.length<9223372036854775808:=Nat.lt_succ_of_le hL0
 clear hL0 hL1
 simp only[pars,Nat.zero_add]
 iterate 4 refine rS ?_
 refine AWP.block ?_
 generalize hz1:yd (yov a0 a1) (a0.length-0) 0 (0,([]:List (List UInt8)))=z1 at hR
 refine AWP.range (yov a0 a1) (fun i1 s1=>⟨[(0,.str a0),(1,.int .u8 a1),(5,.ref 0 1 0 s1.2.length),(6,.int .i64 s1.1),(7,.int .i64 (i1:Int))],[.arr 9 1 s1.2.length (fun j=>eS (s1.2.getD j default))]⟩) (fun i1 s1=>s1.2.length≤([]:List (List UInt8)).length+1 * i1∧0≤s1.1∧s1.1≤i1∧s1.2.length≤i1) (a0.length) 0 (0,([]:List (List UInt8))) [0] hz1 ot wt sm ?_
 clear hz1
 intro i1 s1 hi1 hW1 hz1
 refine rS ?_
 refine AWP.cond rfl (fun hb => ?_) (fun hb => ?_)
 ·have hlt1:i1<a0.length:=ot
  rw[yh hlt1]at hz1;simp only[yov]at hz1
  refine rS ?_
  refine AWP.cond rfl (fun hb => ?_) (fun hb => ?_)
  ·simp only[hb,cond_true]at hz1
   iterate 3 refine rS ?_
   exact⟨_,[2],hlt1,wt,hz1,sm⟩
  ·simp only[hb,cond_false]at hz1
   refine rS ?_
   exact⟨_,[0],hlt1,wt,hz1,sm⟩
 ·obtain rfl:i1=a0.length:=ot
  rw[yg (Nat.le_refl _)]at hz1;subst hz1;dsimp only at hR
  refine AWP.exit ?_;refine yb ?_
  refine rS ?_
  refine AWP.ret ?_
  subst hR
  exact es
end N165
def D_za : DF
 | [x0,x1]=>some (ownL 9 1 eS (za (rdS x0) (rdI x1)),false,[wS x0,wI .u8 x1,(rdS x0).length<1099511627776,(rdS x0).length≤1048576])
 | _=>none
theorem yxh:OkD Tryz.prog 165 D_za:=by unfold D_za;exact dk N165.den
end Go.Ab

namespace Go.Ab
open Go Go.Proofs
theorem yme (a:List UInt8) (c:UInt8) (ha:a.length≤1099511627776):∀ (k i f:Nat) (out:List (List UInt8)),i+k=a.length→f≤i→(∀ j,f≤j→j<i→a.getD j 0≠c) →
  ∃ s:Int×List (List UInt8),yd (yov a c.toNat) k i ((f:Int),out)=.ok s∧s.2++[(a.take a.length).drop s.1.toNat]=out++yn c (a.drop f)
 | 0,i,f,out,hk,hf,hn=>by
  refine⟨_,rfl,?_⟩
  simp only[Int.toNat_natCast,List.take_length]
  rw[yqb]
  intro hc
  obtain⟨j,hj⟩:=List.getElem?_of_mem hc
  rw[List.getElem?_drop]at hj
  have hlt:=(List.getElem?_eq_some_iff.1 hj).1
  refine hn (f+j) (by omega) (by omega) ?_
  rw[List.getD_eq_getElem?_getD,hj];rfl
 | k+1,i,f,out,hk,hf,hn=>by
  have hlt:i<a.length:=by omega
  simp only[yd,yov]
  by_cases hc:a.getD i 0=c
  ·have hb:(((a.getD i 0).toNat:Int) == (c.toNat:Int))=true:=by rw[hc];simp
   simp only[hb,cond_true,Int.toNat_natCast]
   have hw:IntKind.wrap .i64 ((i:Int)+1)=((i+1:Nat):Int):=by rw[IntKind.wrap_i64];omega
   rw[hw]
   obtain⟨s,h1,h2⟩:=yme a c ha k (i+1) (i+1) (out++[(a.take i).drop f]) (by omega) (Nat.le_refl _) (fun j h1 h2=>by omega)
   refine⟨s,h1,?_⟩
   rw[h2,List.append_assoc]
   congr 1
   have he:a.drop f=(a.take i).drop f++c::a.drop (i+1):=by
    have h3:a=a.take i++c::a.drop (i+1):=by
     conv=>lhs;rw[← List.take_append_drop i a]
     rw[List.drop_eq_getElem_cons hlt]
     congr 2
     rw[← hc,List.getD_eq_getElem?_getD,List.getElem?_eq_getElem hlt];rfl
    conv=>lhs;rw[h3]
    rw[List.drop_append_of_le_length (by simp;omega)]
   rw[he,yrb]
   ·rfl
   ·intro hm
    obtain⟨j,hj⟩:=List.getElem?_of_mem hm
    rw[List.getElem?_drop]at hj
    have hl:=(List.getElem?_eq_some_iff.1 hj).1
    simp only[List.length_take]at hl
    rw[List.getElem?_take_of_lt (by omega)]at hj
    refine hn (f+j) (by omega) (by omega) ?_
    rw[List.getD_eq_getElem?_getD,hj];rfl
  ·have hb:(((a.getD i 0).toNat:Int) == (c.toNat:Int))=false:=by
    simp only[beq_eq_false_iff_ne]
    intro h
    exact hc (UInt8.toNat_inj.1 (by omega))
   simp only[hb,cond_false]
   exact yme a c ha k (i+1) f out (by omega) (by omega) (fun j h1 h2=>by
    by_cases hji:j=i
    ·subst hji;exact hc
    ·exact hn j h1 (by omega))
theorem yoj (a:List UInt8) (c:UInt8) (ha:a.length≤1099511627776):za a c.toNat=yn c a:=by
 obtain⟨s,h1,h2⟩:=yme a c ha a.length 0 0 [] (by omega) (Nat.le_refl _) (fun j h1 h2=>by omega)
 unfold za
 simp only[Nat.sub_zero]
 rw[show((0:Int),([]:List (List UInt8)))=(((0:Nat):Int),[])from rfl,h1]
 simpa using h2
theorem y56 (a:List UInt8) (ha:a.length≤1048576):∀ x∈za a 32,x.length≤1048576:=by
 intro x hx
 rw[show(32:Int)=(((32:UInt8).toNat:Nat):Int)from rfl,yoj a 32 (by omega)]at hx
 have:=(y5 32 a).2 x hx
 omega
end Go.Ab

namespace Go.Ab
open Go Go.Proofs
theorem y3 (a:List UInt8) (h:a.length≤1048576):(za a 43).length≤1048577:=by
 rw[show za a 43=yn 43 a from yoj a 43 (by omega)]
 have:=(y5 43 a).1
 omega
theorem yec (a:List UInt8) (i:Nat) (h:a.length≤1048576):((za a 43).getD i default).length≤1048576:=by
 rw[show za a 43=yn 43 a from yoj a 43 (by omega),List.getD_eq_getElem?_getD]
 cases hg:(yn 43 a)[i]? with
 | none=>show(0:Nat)≤1048576;omega
 | some x=>have:=(y5 43 a).2 x (List.mem_of_getElem? hg);simp only[Option.getD_some];omega
end Go.Ab

namespace Go.Ab
open Go Go.Proofs
theorem y8x {l:List (List UInt8)} {m:Nat} (h:∀ x∈l,x.length≤m) (i:Nat):(l.getD i default).length≤m:=by
 rw[List.getD_eq_getElem?_getD]
 cases hg:l[i]? with
 | none=>exact Nat.zero_le _
 | some x=>exact h x (List.mem_of_getElem? hg)
theorem yud (a:List UInt8) (n:Int) (c:UInt8) (hc:(c.toNat:Int)=n) (ha:a.length≤1048576) (i:Nat):((za a n).getD i default).length≤a.length:=by
 rw[← hc,yoj a c (by omega)]
 exact y8x (y5 c a).2 i
theorem y85 (a:List UInt8) (n:Int) (c:UInt8) (hc:(c.toNat:Int)=n) (ha:a.length≤1048576):(za a n).length≤a.length+1:=by
 rw[← hc,yoj a c (by omega)]
 exact(y5 c a).1
theorem ylu (a:List UInt8) (c:UInt8) (i:Nat):((zd a [c]).getD i default).length≤a.length:=y8x (y5 c a).2 i
theorem y80 (a:List UInt8) (c:UInt8):(zd a [c]).length≤a.length+1:=(y5 c a).1
theorem yey {y:List UInt8} (h:y≠[]) (hl:y.length≤1048576):IntKind.wrap .i64 ((y.length:Int)-1)=(y.length:Int)-1∧(List.take (IntKind.wrap .i64 ((y.length:Int)-1)).toNat y).length≤1048576∧1≤y.length:=by
 have:=List.length_pos_iff.2 h
 refine⟨by rw[IntKind.wrap_i64];omega,?_,this⟩
 rw[List.length_take];omega
end Go.Ab

namespace Go.Ab
open Go Go.Proofs
def zsb (a0:(List UInt8)):(Point×Bool):=
 (bif (((za a0 44).length:Int) != 2)then({ X:=0,Y:=0:Point },false)else(bif (((!((zg ((za a0 44).getD 0 default)).2)) || (!((zg ((za a0 44).getD 1 default)).2))) || (!(zcc ({ X:=(zg ((za a0 44).getD 0 default)).1,Y:=(zg ((za a0 44).getD 1 default)).1:Point }))))then({ X:=0,Y:=0:Point },false)else({ X:=(zg ((za a0 44).getD 0 default)).1,Y:=(zg ((za a0 44).getD 1 default)).1:Point },true)))
namespace N230
theorem DD:DOk Tryz.prog (Go.Ab.DD [(165,dP D_za),(168,dP D_zg),(196,dP D_zcc)]):=ya yxh.e <| ya y0m.e <| ya yus.e <| ye _
theorem dn:type_of% (And.intro @D_za.eq_1 <| And.intro @D_zg.eq_1 <| @D_zcc.eq_1):=by and_intros<;>intros<;>rfl
theorem gr {p:Prop} (h:p:=by(grind [y3,yec]);first|done|fail):p:=h
set_option maxHeartbeats 1000000 in
set_option maxRecDepth 20000 in
theorem den (a0:(List UInt8)) (hb0:a0.length<1099511627776) (hp0:a0.length≤1048576):Den Tryz.prog 230 [.str a0] (.tup [.agg (y3c ((zsb a0).1)),.bool ((zsb a0).2)]):=by
 generalize hR:zsb a0=r
 unfold zsb at hR
 refine di Tryz.func230 Tryz.ntmps230 Tryz.results230 ?_
 intro c hL hc hk
 obtain⟨hL0,_⟩:=hL
 have hw0:a0.length<9223372036854775808:=Nat.lt_succ_of_le hL0
 clear hL0
 simp only[pars,Nat.zero_add]
 have s0_:=yud a0 44 44 rfl (by omega) 0
 have s1_:=yud a0 44 44 rfl (by omega) 1
 iterate 3 refine rS ?_
 refine AWP.cond rfl (fun hb => ?_) (fun hb => ?_)
 ·replace hR:=ct hR
  refine rS ?_
  refine AWP.ret ?_
  subst hR
  exact es
 ·replace hR:=cf hR
  iterate 4 refine rS ?_
  refine AWP.cond rfl (fun hb => ?_) (fun hb => ?_)
  ·replace hR:=ct hR
   refine rS ?_
   refine AWP.ret ?_
   subst hR
   exact es
  ·replace hR:=cf hR
   refine rS ?_
   refine AWP.ret ?_
   subst hR
   exact es
end N230
def D_zsb : DF
 | [x0]=>some (.tup [.agg (y3c ((zsb (rdS x0)).1)),.bool ((zsb (rdS x0)).2)],false,[wS x0,(rdS x0).length<1099511627776,(rdS x0).length≤1048576])
 | _=>none
theorem yu0:OkD Tryz.prog 230 D_zsb:=by unfold D_zsb;exact dk N230.den
end Go.Ab

namespace Go.Ab
open Go Go.Proofs
def y5t (a0:(List UInt8)) (i1:Nat) (s1:Unit):Except (Int) (Unit):=
 (bif (((zhb ).getD i1 default) == a0)then .error (i1:Int)else .ok ())
def zfd (a0:(List UInt8)):Int:=
 (match yd (y5t a0) (((zhb ).length)-0) 0 ()with|.error e=>e|.ok s1=>(-1))
namespace N345
theorem DD:DOk Tryz.prog (Go.Ab.DD [(333,dP D_zhb)]):=ya yzu.e <| ye _
theorem dn:type_of% (@D_zhb.eq_1):=by and_intros<;>intros<;>rfl
theorem den (a0:(List UInt8))  : Den Tryz.prog 345 [.str a0] (.int .i64 (zfd a0)):=by
 generalize hR:zfd a0=r
 unfold zfd at hR
 refine di Tryz.func345 Tryz.ntmps345 Tryz.results345 ?_
 intro c hL hc hk
 obtain⟨hL0,_⟩:=hL
 have hw0:a0.length<9223372036854775808:=Nat.lt_succ_of_le hL0
 clear hL0
 simp only[pars,Nat.zero_add]
 have hn2:zhb.length=10:=rfl
 iterate 3 refine rS ?_
 refine AWP.block ?_
 generalize hz1:yd (y5t a0) (((zhb ).length)-0) 0 ()=z1 at hR
 refine AWP.range (y5t a0) (fun i1 s1=>⟨[(0,.str a0),(3,.ref 0 1 0 ((zhb ).length)),(4,.int .i64 (i1:Int))],[.arr 9 1 (zhb ).length (fun j=>eS ((zhb ).getD j default))]⟩) (fun i1 s1=>True) (((zhb ).length)) 0 () [0] hz1 ot wt sm ?_
 clear hz1
 intro i1 s1 hi1 hW1 hz1
 refine rS ?_
 refine AWP.cond rfl (fun hb => ?_) (fun hb => ?_)
 ·have hlt1:i1<((zhb ).length):=ot
  rw[yh hlt1]at hz1;simp only[y5t]at hz1
  refine rS ?_
  refine AWP.cond rfl (fun hb => ?_) (fun hb => ?_)
  ·simp only[hb,cond_true]at hz1
   refine rS ?_
   refine AWP.ret ?_
   subst hz1
   dsimp only at hR
   subst hR
   exact es
  ·simp only[hb,cond_false]at hz1
   refine rS ?_
   exact⟨_,[0],hlt1,wt,hz1,sm⟩
 ·obtain rfl:i1=((zhb ).length):=ot
  rw[yg (Nat.le_refl _)]at hz1;subst hz1;dsimp only at hR
  refine AWP.exit ?_;refine yb ?_
  refine rS ?_
  refine AWP.ret ?_
  subst hR
  exact es
end N345
def D_zfd : DF
 | [x0]=>some (.int .i64 (zfd (rdS x0)),false,[wS x0])
 | _=>none
theorem yh2:OkD Tryz.prog 345 D_zfd:=by unfold D_zfd;exact dk N345.den
end Go.Ab

namespace Go.Ab
open Go Go.Proofs
def y6f (a0:(List UInt8)) (i1:Nat) (s1:List Sector):Except (((List Sector)×Bool)) (List Sector):=
 (bif ((((za ((za a0 44).getD i1 default) 45).length:Int) != 2) || decide ((((za ((za a0 44).getD i1 default) 45).getD 1 default).length:Int)<2))then .error ([],false)else(bif ((!((zg ((za ((za a0 44).getD i1 default) 45).getD 0 default)).2)) || (!((zg (((za ((za a0 44).getD i1 default) 45).getD 1 default).take ((IntKind.wrap .i64 ((((za ((za a0 44).getD i1 default) 45).getD 1 default).length:Int)-1)).toNat))).2)))then .error ([],false)else .ok (s1++[{ From:=(zg ((za ((za a0 44).getD i1 default) 45).getD 0 default)).1,To:=(zg (((za ((za a0 44).getD i1 default) 45).getD 1 default).take ((IntKind.wrap .i64 ((((za ((za a0 44).getD i1 default) 45).getD 1 default).length:Int)-1)).toNat))).1,Color:=(((za ((za a0 44).getD i1 default) 45).getD 1 default).take (((za ((za a0 44).getD i1 default) 45).getD 1 default).length)).drop ((IntKind.wrap .i64 ((((za ((za a0 44).getD i1 default) 45).getD 1 default).length:Int)-1)).toNat):Sector }])))
def zab (a0:(List UInt8)):((List Sector)×Bool):=
 (bif (a0 == [45])then(([]:List Sector),true)else(bif decide (12<((za a0 44).length:Int))then([],false)else(match yd (y6f a0) (((za a0 44).length)-0) 0 ([]:List Sector)with|.error e=>e|.ok s1=>(bif (!(zr s1))then([],false)else(s1,true)))))
namespace N232
theorem DD:DOk Tryz.prog (Go.Ab.DD [(165,dP D_za),(168,dP D_zg),(200,dP D_zr)]):=ya yxh.e <| ya y0m.e <| ya yax.e <| ye _
theorem dn:type_of% (And.intro @D_za.eq_1 <| And.intro @D_zg.eq_1 <| @D_zr.eq_1):=by and_intros<;>intros<;>rfl
theorem gr {p:Prop} (h:p:=by(grind [y3,yec]);first|done|fail):p:=h
theorem o0 {p:Prop} (h:p:=by(first|(obtain⟨q0,q1,q2,q3⟩:=hlo i1 (by assumption);have h1:=e1 i1;have h2:=e3 i1 0;have h3:=e3 i1 1;(repeat' with_reducible apply And.intro)<;>first|with_reducible assumption|exact q2|(rw[q1];omega)|omega)|(have h1:=e1 i1;have h2:=e3 i1 0;have h3:=e3 i1 1;(repeat' with_reducible apply And.intro)<;>first|with_reducible assumption|omega|(intros;omega))|(obtain⟨w1,w2,w3⟩:=hW1;(repeat' with_reducible apply And.intro)<;>first|with_reducible assumption|omega)|((repeat' with_reducible apply And.intro)<;>omega));first|done|fail):p:=h
theorem o2 {p:Prop} (h:p:=by(first|((repeat' with_reducible apply And.intro)<;>first|(simp only[List.length_append,List.length_singleton];(first|done|fail))|(rw[IntKind.wrap_i64];omega)|(intro j hj;by_cases hji:j<s1.length;(focus(simp only[yb4 hji,ys7 hji,cond_true];first|(first|done|fail)|with_reducible rfl));(have e0:j-s1.length=0:=by omega);(simp only[yu4 hji hj,yo6 hji,cond_false,e0,elt,borrowL,borrow];first|(first|done|fail)|with_reducible rfl))|decide));first|done|fail):p:=h
set_option maxHeartbeats 1000000 in
set_option maxRecDepth 20000 in
theorem den (a0:(List UInt8)) (hb0:a0.length<1099511627776) (hp0:a0.length≤1048576):Den Tryz.prog 232 [.str a0] (.tup [ownL 188 3 ym ((zab a0).1),.bool ((zab a0).2)]):=by
 generalize hR:zab a0=r
 unfold zab at hR
 refine di Tryz.func232 Tryz.ntmps232 Tryz.results232 ?_
 intro c hL hc hk
 obtain⟨hL0,_⟩:=hL
 have hw0:a0.length<9223372036854775808:=Nat.lt_succ_of_le hL0
 clear hL0
 simp only[pars,Nat.zero_add]
 have e1:=fun i=>yud a0 44 44 rfl (by omega) i
 have e2:=y85 a0 44 44 rfl (by omega)
 have e3:=fun i k:Nat=>yud ((za a0 44).getD i default) 45 45 rfl (by have:=e1 i;omega) k
 have hlo:∀ (i:Nat),((((za ((za a0 44).getD i default) 45).length:Int) != 2) || decide ((((za ((za a0 44).getD i default) 45).getD 1 default).length:Int)<2))=false→_:=fun i h=>And.intro (show(za ((za a0 44).getD i default) 45).length=2 by rw[Bool.or_eq_false_iff]at h;have h:=h.1;simp only[bne_eq_false_iff_eq]at h;omega) (yey (y:=((za ((za a0 44).getD i default) 45).getD 1 default)) (by intro e;rw[Bool.or_eq_false_iff]at h;have h:=h.2;rw[e]at h;exact absurd h (by decide)) (by have h1:=e1 i;have h2:=e3 i 1;omega))
 iterate 2 refine rS ?_
 refine AWP.cond rfl (fun hb => ?_) (fun hb => ?_)
 ·replace hR:=ct hR
  refine rS ?_
  refine AWP.ret ?_
  subst hR
  exact es
 ·replace hR:=cf hR
  iterate 2 refine rS ?_
  refine AWP.cond rfl (fun hb => ?_) (fun hb => ?_)
  ·replace hR:=ct hR
   refine rS ?_
   refine AWP.ret ?_
   subst hR
   exact es
  ·replace hR:=cf hR
   iterate 2 refine rS ?_
   refine AWP.block ?_
   generalize hz1:yd (y6f a0) (((za a0 44).length)-0) 0 ([]:List Sector)=z1 at hR
   refine AWP.range (y6f a0) (fun i1 s1=>⟨[(4,.ref 0 1 0 ((za a0 44).length)),(5,.ref 1 3 0 s1.length),(6,.int .i64 (i1:Int))],[.arr 9 1 (za a0 44).length (fun j=>eS ((za a0 44).getD j default)),.arr 188 3 s1.length (fun j=>ym (s1.getD j default))]⟩) (fun i1 s1=>s1.length≤([]:List Sector).length+1 * i1∧s1.length≤i1∧∀ v∈s1,bdSector v) (((za a0 44).length)) 0 ([]:List Sector) [0,1] hz1 ot (by(simp)) sm ?_
   clear hz1
   intro i1 s1 hi1 hW1 hz1
   have hV1:=hW1;obtain⟨hV1_0,hV1_1,hV1_2⟩:=hV1
   refine rS ?_
   refine AWP.cond rfl (fun hb => ?_) (fun hb => ?_)
   ·have hlt1:i1<((za a0 44).length):=ot
    rw[yh hlt1]at hz1;simp only[y6f]at hz1
    iterate 2 refine rS ?_
    refine AWP.cond rfl (fun hb => ?_) (fun hb => ?_)
    ·simp only[hb,cond_true]at hz1
     refine rS ?_
     refine AWP.ret ?_
     subst hz1
     dsimp only at hR
     subst hR
     exact es
    ·simp only[hb,cond_false]at hz1
     iterate 4 refine rS ?_
     refine AWP.cond rfl (fun hb => ?_) (fun hb => ?_)
     ·simp only[hb,cond_true]at hz1
      refine rS ?_
      refine AWP.ret ?_
      subst hz1
      dsimp only at hR
      subst hR
      exact es
     ·simp only[hb,cond_false]at hz1
      iterate 2 refine rS ?_
      exact⟨_,[0,4],hlt1,by(have h1:=e1 i1;have c1:=e3 i1 1;obtain⟨w0,w1,w2⟩:=hW1;refine⟨by simp only[List.length_append,List.length_cons,List.length_nil,List.length_singleton];omega,by simp only[List.length_append,List.length_cons,List.length_nil,List.length_singleton];omega,fun v hv=>(List.mem_append.1 hv).elim (fun h=>w2 v h) (fun h=>by rw[List.mem_singleton]at h;subst h;show List.length _<1099511627776;simp only[List.length_drop,List.length_take];omega)⟩),hz1,sm⟩
   ·obtain rfl:i1=((za a0 44).length):=ot
    rw[yg (Nat.le_refl _)]at hz1;subst hz1;dsimp only at hR
    refine AWP.exit ?_;refine yb ?_
    refine rS ?_
    refine AWP.cond rfl (fun hb => ?_) (fun hb => ?_)
    ·replace hR:=ct hR
     refine rS ?_
     refine AWP.ret ?_
     subst hR
     exact es
    ·replace hR:=cf hR
     refine rS ?_
     refine AWP.ret ?_
     subst hR
     exact es
end N232
def D_zab : DF
 | [x0]=>some (.tup [ownL 188 3 ym ((zab (rdS x0)).1),.bool ((zab (rdS x0)).2)],false,[wS x0,(rdS x0).length<1099511627776,(rdS x0).length≤1048576])
 | _=>none
theorem y01:OkD Tryz.prog 232 D_zab:=by unfold D_zab;exact dk N232.den
end Go.Ab
