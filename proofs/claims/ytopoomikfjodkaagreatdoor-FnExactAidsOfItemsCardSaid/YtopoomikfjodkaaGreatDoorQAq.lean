/- A part of a proof: walks of functions and lemmas of our own. No conditions. -/
import Derived.Test.YtopoomikfjodkaaGreatDoorQAl
import Derived.Test.YtopoomikfjodkaaGreatDoorQAn
import Derived.Test.YtopoomikfjodkaaGreatDoorQAo
import Derived.Test.YtopoomikfjodkaaGreatDoorQAi
set_option linter.unusedSectionVars false
set_option linter.unusedVariables false
set_option linter.unusedSimpArgs false
set_option maxHeartbeats 1000000
namespace Go.Ab
open Go Go.Proofs
def zo (a0:Int):(List UInt8):=
 (zeg a0 10)
namespace N107
theorem DD:DOk Tryz.prog (Go.Ab.DD [(219,dP D_zeg)]):=ya yc1.e <| ye _
theorem dn:type_of% (@D_zeg.eq_1):=by and_intros<;>intros<;>rfl
theorem den (a0:Int) (hp0 : -9223372036854775808≤a0) (hp1:a0≤9223372036854775807):Den Tryz.prog 107 [.int .i64 a0] (.str (zo a0)):=by
 generalize hR:zo a0=r
 unfold zo at hR
 refine di Tryz.func107 Tryz.ntmps107 Tryz.results107 ?_
 intro c hL hc hk
 clear hL
 simp only[pars,Nat.zero_add]
 iterate 2 refine rS ?_
 refine AWP.ret ?_
 subst hR
 exact es
end N107
def D_zo : DF
 | [x0]=>some (.str (zo (rdI x0)),false,[wI .i64 x0,-9223372036854775808≤(rdI x0),(rdI x0)≤9223372036854775807])
 | _=>none
theorem yjk:OkD Tryz.prog 107 D_zo:=by unfold D_zo;exact dk N107.den
end Go.Ab

namespace Go.Ab
open Go Go.Proofs
theorem ykp (n:Int):(Go.Lib.itoa n).length≤n.natAbs+2:=by
 unfold Go.Lib.itoa
 split
 ·have:=y5c n.natAbs
  simp only[List.length_cons]
  omega
 ·have:=y5c n.toNat
  omega
theorem y30 (n:Int):zo n=Go.Lib.itoa n:=rfl
theorem y7e (n:Int):(zo n).length≤n.natAbs+2:=ykp n
end Go.Ab

namespace Go.Ab
open Go Go.Proofs
def zx (a0:Int) (a1:Int):Bool:=
 decide (a0≤a1)
namespace N160
theorem DD:DOk Tryz.prog (Go.Ab.DD []):=ye _
theorem den (a0:Int) (a1:Int)  : Den Tryz.prog 160 [.int .i64 a0,.int .i64 a1] (.bool (zx a0 a1)):=by
 generalize hR:zx a0 a1=r
 unfold zx at hR
 refine di Tryz.func160 Tryz.ntmps160 Tryz.results160 ?_
 intro c hL hc hk
 clear hL
 simp only[pars,Nat.zero_add]
 iterate 2 refine rS ?_
 refine AWP.ret ?_
 subst hR
 exact es
end N160
def D_zx : DF
 | [x0,x1]=>some (.bool (zx (rdI x0) (rdI x1)),false,[wI .i64 x0,wI .i64 x1])
 | _=>none
theorem y9f:OkD Tryz.prog 160 D_zx:=by unfold D_zx;exact dk N160.den
end Go.Ab

namespace Go.Ab
open Go Go.Proofs
def zpf (a0:(List UInt8)):Bool:=
 (((a0.length:Int) == 1) && (zqb [87,82,71,89] a0))
namespace N334
theorem DD:DOk Tryz.prog (Go.Ab.DD [(286,dP D_zqb)]):=ya y2t.e <| ye _
theorem dn:type_of% (@D_zqb.eq_1):=by and_intros<;>intros<;>rfl
theorem den (a0:(List UInt8))  : Den Tryz.prog 334 [.str a0] (.bool (zpf a0)):=by
 generalize hR:zpf a0=r
 unfold zpf at hR
 refine di Tryz.func334 Tryz.ntmps334 Tryz.results334 ?_
 intro c hL hc hk
 obtain⟨hL0,_⟩:=hL
 have hw0:a0.length<9223372036854775808:=Nat.lt_succ_of_le hL0
 clear hL0
 simp only[pars,Nat.zero_add]
 iterate 2 refine rS ?_
 refine AWP.ret ?_
 subst hR
 exact es
end N334
def D_zpf : DF
 | [x0]=>some (.bool (zpf (rdS x0)),false,[wS x0])
 | _=>none
theorem y92:OkD Tryz.prog 334 D_zpf:=by unfold D_zpf;exact dk N334.den
end Go.Ab

namespace Go.Ab
open Go Go.Proofs
def zf (a0:Int) (a1:Int) (a2:Int):Bool:=
 (decide (a1≤a0) && decide (a0≤a2))
namespace N181
theorem DD:DOk Tryz.prog (Go.Ab.DD []):=ye _
theorem den (a0:Int) (a1:Int) (a2:Int)  : Den Tryz.prog 181 [.int .i64 a0,.int .i64 a1,.int .i64 a2] (.bool (zf a0 a1 a2)):=by
 generalize hR:zf a0 a1 a2=r
 unfold zf at hR
 refine di Tryz.func181 Tryz.ntmps181 Tryz.results181 ?_
 intro c hL hc hk
 clear hL
 simp only[pars,Nat.zero_add]
 iterate 2 refine rS ?_
 refine AWP.ret ?_
 subst hR
 exact es
end N181
def D_zf : DF
 | [x0,x1,x2]=>some (.bool (zf (rdI x0) (rdI x1) (rdI x2)),false,[wI .i64 x0,wI .i64 x1,wI .i64 x2])
 | _=>none
theorem y2c:OkD Tryz.prog 181 D_zf:=by unfold D_zf;exact dk N181.den
end Go.Ab

namespace Go.Ab
open Go Go.Proofs
def zxf (a0:Int):Bool:=
 (zf a0 0 359)
namespace N94
theorem DD:DOk Tryz.prog (Go.Ab.DD [(181,dP D_zf)]):=ya y2c.e <| ye _
theorem dn:type_of% (@D_zf.eq_1):=by and_intros<;>intros<;>rfl
theorem ol:type_of% (@zf.eq_1):=@zf.eq_1
theorem den (a0:Int)  : Den Tryz.prog 94 [.int .i64 a0] (.bool (zxf a0)):=by
 generalize hR:zxf a0=r
 unfold zxf at hR
 refine di Tryz.func94 Tryz.ntmps94 Tryz.results94 ?_
 intro c hL hc hk
 clear hL
 simp only[pars,Nat.zero_add]
 iterate 2 refine rS ?_
 refine AWP.ret ?_
 subst hR
 exact es
end N94
def D_zxf : DF
 | [x0]=>some (.bool (zxf (rdI x0)),false,[wI .i64 x0])
 | _=>none
theorem yi1:OkD Tryz.prog 94 D_zxf:=by unfold D_zxf;exact dk N94.den
end Go.Ab

namespace Go.Ab
open Go Go.Proofs
def zqf (a0:Sector):Bool:=
 (((zxf a0.From) && (zxf a0.To)) && (zpf a0.Color))
namespace N283
theorem DD:DOk Tryz.prog (Go.Ab.DD [(334,dP D_zpf),(94,dP D_zxf)]):=ya y92.e <| ya yi1.e <| ye _
theorem dn:type_of% (And.intro @D_zpf.eq_1 <| @D_zxf.eq_1):=by and_intros<;>intros<;>rfl
theorem den (a0:Sector)  : Den Tryz.prog 283 [.agg (ym a0)] (.bool (zqf a0)):=by
 generalize hR:zqf a0=r
 unfold zqf at hR
 refine di Tryz.func283 Tryz.ntmps283 Tryz.results283 ?_
 intro c hL hc hk
 obtain⟨hL0,_⟩:=hL
 have hw0:bwSector a0:=yw a0 hL0
 clear hL0
 simp only[pars,Nat.zero_add]
 iterate 2 refine rS ?_
 refine AWP.ret ?_
 subst hR
 exact es
end N283
def D_zqf : DF
 | [x0]=>some (.bool (zqf (rdG yq x0)),false,[wG ym yq x0])
 | _=>none
theorem yn1:OkD Tryz.prog 283 D_zqf:=by unfold D_zqf;exact dk N283.den
end Go.Ab

namespace Go.Ab
open Go Go.Proofs
def zne (a0:Int) (a1:Int):Int:=
 (IntKind.wrap .i64 ((a0.tmod a1)+a1)).tmod a1
namespace N335
theorem DD:DOk Tryz.prog (Go.Ab.DD []):=ye _
theorem den (a0:Int) (a1:Int) (hp0:0<a1):Den Tryz.prog 335 [.int .i64 a0,.int .i64 a1] (.int .i64 (zne a0 a1)):=by
 generalize hR:zne a0 a1=r
 unfold zne at hR
 refine di Tryz.func335 Tryz.ntmps335 Tryz.results335 ?_
 intro c hL hc hk
 clear hL
 simp only[pars,Nat.zero_add]
 iterate 2 refine rS ?_
 refine AWP.ret ?_
 subst hR
 exact es
end N335
def D_zne : DF
 | [x0,x1]=>some (.int .i64 (zne (rdI x0) (rdI x1)),false,[wI .i64 x0,wI .i64 x1,0<(rdI x1)])
 | _=>none
theorem yut:OkD Tryz.prog 335 D_zne:=by unfold D_zne;exact dk N335.den
end Go.Ab

namespace Go.Ab
open Go Go.Proofs
def zpd (a0:Sector):Int:=
 IntKind.wrap .i64 ((zne (IntKind.wrap .i64 ((IntKind.wrap .i64 (a0.To-a0.From))-1)) 360)+1)
namespace N285
theorem DD:DOk Tryz.prog (Go.Ab.DD [(335,dP D_zne)]):=ya yut.e <| ye _
theorem dn:type_of% (@D_zne.eq_1):=by and_intros<;>intros<;>rfl
theorem den (a0:Sector)  : Den Tryz.prog 285 [.agg (ym a0)] (.int .i64 (zpd a0)):=by
 generalize hR:zpd a0=r
 unfold zpd at hR
 refine di Tryz.func285 Tryz.ntmps285 Tryz.results285 ?_
 intro c hL hc hk
 obtain⟨hL0,_⟩:=hL
 have hw0:bwSector a0:=yw a0 hL0
 clear hL0
 simp only[pars,Nat.zero_add]
 iterate 2 refine rS ?_
 refine AWP.ret ?_
 subst hR
 exact es
end N285
def D_zpd : DF
 | [x0]=>some (.int .i64 (zpd (rdG yq x0)),false,[wG ym yq x0])
 | _=>none
theorem yyu:OkD Tryz.prog 285 D_zpd:=by unfold D_zpd;exact dk N285.den
end Go.Ab

namespace Go.Ab
open Go Go.Proofs
def zve (a0:Sector) (a1:Int):Bool:=
 decide ((zne (IntKind.wrap .i64 (a1-a0.From)) 360)<(zpd a0))
namespace N284
theorem DD:DOk Tryz.prog (Go.Ab.DD [(285,dP D_zpd),(335,dP D_zne)]):=ya yyu.e <| ya yut.e <| ye _
theorem dn:type_of% (And.intro @D_zpd.eq_1 <| @D_zne.eq_1):=by and_intros<;>intros<;>rfl
theorem den (a0:Sector) (a1:Int)  : Den Tryz.prog 284 [.agg (ym a0),.int .i64 a1] (.bool (zve a0 a1)):=by
 generalize hR:zve a0 a1=r
 unfold zve at hR
 refine di Tryz.func284 Tryz.ntmps284 Tryz.results284 ?_
 intro c hL hc hk
 obtain⟨hL0,hL1,_⟩:=hL
 have hw0:bwSector a0:=yw a0 hL0
 clear hL0 hL1
 simp only[pars,Nat.zero_add]
 refine rS ?_
 refine rD 6 ?_
 refine AWP.ret ?_
 subst hR
 exact es
end N284
def D_zve : DF
 | [x0,x1]=>some (.bool (zve (rdG yq x0) (rdI x1)),false,[wG ym yq x0,wI .i64 x1])
 | _=>none
theorem yiz:OkD Tryz.prog 284 D_zve:=by unfold D_zve;exact dk N284.den
end Go.Ab

namespace Go.Ab
open Go Go.Proofs
def y4p (a0:(List Sector)) (i1:Nat) (s1:Int) (i2:Nat) (s2:Unit):Except (Bool) (Unit):=
 (bif (((i2:Int) != (i1:Int)) && (zve (a0.getD i1 default) ((a0.getD i2 default).From)))then .error false else .ok ())
def ywn (a0:(List Sector)) (i1:Nat) (s1:Int):Except (Bool) (Int):=
 (bif ((!(zqf (a0.getD i1 default))) || (decide (0<(i1:Int)) && decide (((a0.getD i1 default).From)≤((a0.getD ((IntKind.wrap .i64 ((i1:Int)-1)).toNat) default).From))))then .error false else(match yd (y4p a0 i1 s1) (a0.length-0) 0 ()with|.error e=>.error e|.ok s2=>.ok (IntKind.wrap .i64 (s1+(zpd (a0.getD i1 default))))))
def zy (a0:(List Sector)):Bool:=
 (match yd (ywn a0) (a0.length-0) 0 0 with|.error e=>e|.ok s1=>((zx (a0.length:Int) 12) && decide (s1≤360)))
namespace N215
theorem DD:DOk Tryz.prog (Go.Ab.DD [(160,dP D_zx),(283,dP D_zqf),(284,dP D_zve),(285,dP D_zpd)]):=ya y9f.e <| ya yn1.e <| ya yiz.e <| ya yyu.e <| ye _
theorem dn:type_of% (And.intro @D_zx.eq_1 <| And.intro @D_zqf.eq_1 <| And.intro @D_zve.eq_1 <| @D_zpd.eq_1):=by and_intros<;>intros<;>rfl
theorem den (a0:(List Sector))  : Den Tryz.prog 215 [encL 3 ym a0] (.bool (zy a0)):=by
 generalize hR:zy a0=r
 unfold zy at hR
 refine di Tryz.func215 Tryz.ntmps215 Tryz.results215 ?_
 intro c hL hc hk
 obtain⟨hL0,_⟩:=hL
 have hw0:a0.length<9223372036854775808:=Nat.lt_succ_of_le (yf hL0).1
 have hw1:∀ v∈a0,bwSector v:=fun v hv=>yw v ((yf hL0).2 v hv)
 clear hL0
 simp only[pars,Nat.zero_add]
 iterate 3 refine rS ?_
 refine AWP.block ?_
 generalize hz1:yd (ywn a0) (a0.length-0) 0 0=z1 at hR
 refine AWP.range (ywn a0) (fun i1 s1=>⟨[(0,encL 3 ym a0),(3,.int .i64 s1),(8,encL 3 ym a0),(9,.int .i64 (a0.length:Int)),(10,.int .i64 (i1:Int))],[]⟩) (fun i1 s1=>True) (a0.length) 0 0 [] hz1 ot wt sm ?_
 clear hz1
 intro i1 s1 hi1 hW1 hz1
 refine rS ?_
 refine AWP.seq ?_
 refine AWP.cond rfl (fun hb => ?_) (fun hb => ?_)
 ·have hlt1:i1<a0.length:=ot
  rw[yh hlt1]at hz1;simp only[ywn]at hz1
  refine rS ?_
  refine rD 18 ?_
  refine AWP.cond rfl (fun hb => ?_) (fun hb => ?_)
  ·simp only[hb,cond_true]at hz1
   refine rS ?_
   refine AWP.ret ?_
   subst hz1
   dsimp only at hR
   subst hR
   exact es
  ·simp only[hb,cond_false]at hz1
   refine rS ?_
   refine AWP.block ?_
   generalize hz2:yd (y4p a0 i1 s1) (a0.length-0) 0 ()=z2 at hz1
   refine AWP.range (y4p a0 i1 s1) (fun i2 s2=>⟨[(0,encL 3 ym a0),(3,.int .i64 s1),(4,.int .i64 (i1:Int)),(5,.ptr 0 0),(8,encL 3 ym a0),(9,.int .i64 (a0.length:Int)),(10,.int .i64 (i1:Int)),(33,encL 3 ym a0),(34,.int .i64 (a0.length:Int)),(35,.int .i64 (i2:Int))],[.box [.int .i64 ((a0.getD i1 default).From),.int .i64 ((a0.getD i1 default).To),.str ((a0.getD i1 default).Color)]]⟩) (fun i2 s2=>True) (a0.length) 0 () [0] hz2 ot wt sm ?_
   clear hz2
   intro i2 s2 hi2 hW2 hz2
   refine rS ?_
   refine AWP.seq ?_
   refine AWP.cond rfl (fun hb => ?_) (fun hb => ?_)
   ·have hlt2:i2<a0.length:=ot
    rw[yh hlt2]at hz2;simp only[y4p]at hz2
    iterate 2 refine rS ?_
    refine AWP.cond rfl (fun hb => ?_) (fun hb => ?_)
    ·simp only[hb,cond_true]at hz2
     refine rS ?_
     refine AWP.ret ?_
     subst hz2
     dsimp only at hz1
     subst hz1
     dsimp only at hR
     subst hR
     exact es
    ·simp only[hb,cond_false]at hz2
     refine rS ?_
     exact⟨_,[0],hlt2,wt,hz2,sm⟩
   ·obtain rfl:i2=a0.length:=ot
    rw[yg (Nat.le_refl _)]at hz2;subst hz2;dsimp only at hz1
    refine AWP.exit ?_;refine yb ?_
    iterate 2 refine rS ?_
    exact⟨_,[],hlt1,wt,hz1,sm⟩
 ·obtain rfl:i1=a0.length:=ot
  rw[yg (Nat.le_refl _)]at hz1;subst hz1;dsimp only at hR
  refine AWP.exit ?_;refine yb ?_
  refine rS ?_
  refine AWP.ret ?_
  subst hR
  exact es
end N215
def D_zy : DF
 | [x0]=>some (.bool (zy (rdL yq x0)),false,[wL 3 ym yq x0])
 | _=>none
theorem yms:OkD Tryz.prog 215 D_zy:=by unfold D_zy;exact dk N215.den
end Go.Ab

namespace Go.Ab
open Go Go.Proofs
def zjf (a0:Int):Bool:=
 (zf a0 1 9)
namespace N84
theorem DD:DOk Tryz.prog (Go.Ab.DD [(181,dP D_zf)]):=ya y2c.e <| ye _
theorem dn:type_of% (@D_zf.eq_1):=by and_intros<;>intros<;>rfl
theorem ol:type_of% (@zf.eq_1):=@zf.eq_1
theorem den (a0:Int)  : Den Tryz.prog 84 [.int .i64 a0] (.bool (zjf a0)):=by
 generalize hR:zjf a0=r
 unfold zjf at hR
 refine di Tryz.func84 Tryz.ntmps84 Tryz.results84 ?_
 intro c hL hc hk
 clear hL
 simp only[pars,Nat.zero_add]
 iterate 2 refine rS ?_
 refine AWP.ret ?_
 subst hR
 exact es
end N84
def D_zjf : DF
 | [x0]=>some (.bool (zjf (rdI x0)),false,[wI .i64 x0])
 | _=>none
theorem ycu:OkD Tryz.prog 84 D_zjf:=by unfold D_zjf;exact dk N84.den
end Go.Ab

namespace Go.Ab
open Go Go.Proofs
def zwe (a0:Int) (a1:Int):Bool:=
 (decide (0≤a0) && decide (a0<a1))
namespace N188
theorem DD:DOk Tryz.prog (Go.Ab.DD []):=ye _
theorem den (a0:Int) (a1:Int)  : Den Tryz.prog 188 [.int .i64 a0,.int .i64 a1] (.bool (zwe a0 a1)):=by
 generalize hR:zwe a0 a1=r
 unfold zwe at hR
 refine di Tryz.func188 Tryz.ntmps188 Tryz.results188 ?_
 intro c hL hc hk
 clear hL
 simp only[pars,Nat.zero_add]
 iterate 2 refine rS ?_
 refine AWP.ret ?_
 subst hR
 exact es
end N188
def D_zwe : DF
 | [x0,x1]=>some (.bool (zwe (rdI x0) (rdI x1)),false,[wI .i64 x0,wI .i64 x1])
 | _=>none
theorem yr2:OkD Tryz.prog 188 D_zwe:=by unfold D_zwe;exact dk N188.den
end Go.Ab

namespace Go.Ab
open Go Go.Proofs
def zkb (a0:Int) (a1:(List (List UInt8))):(List UInt8):=
 (bif (!(zwe a0 (a1.length:Int)))then[]else(a1.getD ((a0).toNat) default))
namespace N90
theorem DD:DOk Tryz.prog (Go.Ab.DD [(188,dP D_zwe)]):=ya yr2.e <| ye _
theorem dn:type_of% (@D_zwe.eq_1):=by and_intros<;>intros<;>rfl
theorem ol:type_of% (@zwe.eq_1):=@zwe.eq_1
theorem den (a0:Int) (a1:(List (List UInt8)))  : Den Tryz.prog 90 [.int .i64 a0,encL 1 eS a1] (.str (zkb a0 a1)):=by
 generalize hR:zkb a0 a1=r
 unfold zkb at hR
 refine di Tryz.func90 Tryz.ntmps90 Tryz.results90 ?_
 intro c hL hc hk
 obtain⟨hL0,hL1,_⟩:=hL
 have hw0:a1.length<9223372036854775808:=Nat.lt_succ_of_le (yf hL1).1
 have hw1:∀ v∈a1,bwS v:=fun v hv=>ynx v ((yf hL1).2 v hv)
 clear hL0 hL1
 simp only[pars,Nat.zero_add]
 iterate 2 refine rS ?_
 refine AWP.cond rfl (fun hb => ?_) (fun hb => ?_)
 ·replace hR:=ct hR
  refine rS ?_
  refine AWP.ret ?_
  subst hR
  exact es
 ·replace hR:=cf hR
  refine rS ?_
  refine AWP.ret ?_
  subst hR
  exact es
end N90
def D_zkb : DF
 | [x0,x1]=>some (.str (zkb (rdI x0) (rdL dS x1)),false,[wI .i64 x0,wL 1 eS dS x1])
 | _=>none
theorem yvg:OkD Tryz.prog 90 D_zkb:=by unfold D_zkb;exact dk N90.den
end Go.Ab

namespace Go.Ab
open Go Go.Proofs
def zkf (a0:Int):(List UInt8):=
 (zkb a0 ([[],[82],[71],[66,89],[66,89,66],[89,66],[89,66,89],[66,82,66],[82,87],[89]]:List (List UInt8)))
namespace N85
theorem DD:DOk Tryz.prog (Go.Ab.DD [(90,dP D_zkb)]):=ya yvg.e <| ye _
theorem dn:type_of% (@D_zkb.eq_1):=by and_intros<;>intros<;>rfl
theorem lx {p:Prop} (h:p:=by(exact lxx);first|done|fail):p:=h
theorem den (a0:Int)  : Den Tryz.prog 85 [.int .i64 a0] (.str (zkf a0)):=by
 generalize hR:zkf a0=r
 unfold zkf at hR
 refine di Tryz.func85 Tryz.ntmps85 Tryz.results85 ?_
 intro c hL hc hk
 clear hL
 simp only[pars,Nat.zero_add]
 iterate 2 refine rS ?_
 refine AWP.ret ?_
 subst hR
 exact es
end N85
def D_zkf : DF
 | [x0]=>some (.str (zkf (rdI x0)),false,[wI .i64 x0])
 | _=>none
theorem y3s:OkD Tryz.prog 85 D_zkf:=by unfold D_zkf;exact dk N85.den
end Go.Ab

namespace Go.Ab
open Go Go.Proofs
theorem yju {P:List UInt8→Prop} (n:Int) (l:List (List UInt8)) (h0:P []) (h:∀ y∈l,P y):P (zkb n l):=by
 unfold zkb
 cases hb:zwe n (l.length:Int)with
 | false=>exact h0
 | true=>
  simp only[Bool.not_true,cond_false]
  rw[List.getD_eq_getElem?_getD]
  by_cases hi:n.toNat<l.length
  ·rw[List.getElem?_eq_getElem hi];exact h _ (List.getElem_mem hi)
  ·rw[List.getElem?_eq_none (by omega)];exact h0
end Go.Ab

namespace Go.Ab
open Go Go.Proofs
def zsd (a0:Int):(List (List UInt8)):=
 (zfg (zkb a0 ([[],[99,97,110,32,112,105,108,108,97,114,32,115,112,97,114],[99,111,110,101,32,112,105,108,108,97,114,32,115,112,97,114],[112,105,108,108,97,114,32,115,112,97,114],[112,105,108,108,97,114,32,115,112,97,114],[112,105,108,108,97,114,32,115,112,97,114],[112,105,108,108,97,114,32,115,112,97,114],[112,105,108,108,97,114,32,115,112,97,114],[115,112,104,101,114,101,32,112,105,108,108,97,114,32,115,112,97,114],[99,97,110,32,99,111,110,101,32,112,105,108,108,97,114,32,115,112,97,114,32,115,112,104,101,114,101]]:List (List UInt8))))
namespace N87
theorem DD:DOk Tryz.prog (Go.Ab.DD [(183,dP D_zfg),(90,dP D_zkb)]):=ya y02.e <| ya yvg.e <| ye _
theorem dn:type_of% (And.intro @D_zfg.eq_1 <| @D_zkb.eq_1):=by and_intros<;>intros<;>rfl
theorem o0 {p:Prop} (h:p:=by(first|(and_intros<;>first|exact yju (P:=fun y=>y.length≤1048576) _ _ (by simp) (by simp)|exact yju (P:=fun y=>∀ x∈y,x.toNat<128) _ _ (by simp) (by simp)));first|done|fail):p:=h
theorem lx {p:Prop} (h:p:=by(exact lxx);first|done|fail):p:=h
theorem den (a0:Int)  : Den Tryz.prog 87 [.int .i64 a0] (ownL 9 1 eS (zsd a0)):=by
 generalize hR:zsd a0=r
 unfold zsd at hR
 refine di Tryz.func87 Tryz.ntmps87 Tryz.results87 ?_
 intro c hL hc hk
 clear hL
 simp only[pars,Nat.zero_add]
 iterate 2 refine rS ?_
 refine AWP.ret ?_
 subst hR
 exact es
end N87
def D_zsd : DF
 | [x0]=>some (ownL 9 1 eS (zsd (rdI x0)),false,[wI .i64 x0])
 | _=>none
def Dz_zsd : DF
 | [x0]=>some (ownL 9 1 eS (zsd (rdI x0)),true,[wI .i64 x0])
 | _=>none
theorem yoz:OkD Tryz.prog 87 D_zsd:=by unfold D_zsd;exact dk N87.den
theorem yzy:OkD Tryz.prog 87 Dz_zsd:=by unfold Dz_zsd;exact dk N87.den
end Go.Ab

namespace Go.Ab
open Go Go.Proofs
def zlf (a0:Int):(List UInt8):=
 (zkb a0 ([[],[99,97,110],[99,111,110,101],[117,112],[98,97,115,101],[100,111,119,110],[112,111,105,110,116],[98,97,108,108,115],[98,97,108,108],[99,114,111,115,115]]:List (List UInt8)))
namespace N88
theorem DD:DOk Tryz.prog (Go.Ab.DD [(90,dP D_zkb)]):=ya yvg.e <| ye _
theorem dn:type_of% (@D_zkb.eq_1):=by and_intros<;>intros<;>rfl
theorem lx {p:Prop} (h:p:=by(exact lxx);first|done|fail):p:=h
theorem den (a0:Int)  : Den Tryz.prog 88 [.int .i64 a0] (.str (zlf a0)):=by
 generalize hR:zlf a0=r
 unfold zlf at hR
 refine di Tryz.func88 Tryz.ntmps88 Tryz.results88 ?_
 intro c hL hc hk
 clear hL
 simp only[pars,Nat.zero_add]
 iterate 2 refine rS ?_
 refine AWP.ret ?_
 subst hR
 exact es
end N88
def D_zlf : DF
 | [x0]=>some (.str (zlf (rdI x0)),false,[wI .i64 x0])
 | _=>none
theorem yvt:OkD Tryz.prog 88 D_zlf:=by unfold D_zlf;exact dk N88.den
end Go.Ab

namespace Go.Ab
open Go Go.Proofs
def zoc (a0:Mark):Bool:=
 (bif (a0.Kind == 0 && (a0.Colors == [] && (a0.Shape == [] && a0.Topmark == [])))then true else((((zjf a0.Kind) && (a0.Colors == (zkf a0.Kind))) && (zte (zsd a0.Kind) a0.Shape)) && ((a0.Topmark == []) || (a0.Topmark == (zlf a0.Kind)))))
namespace N17
theorem DD:DOk Tryz.prog (Go.Ab.DD [(84,dP D_zjf),(85,dP D_zkf),(86,dP D_zte),(87,dP D_zsd),(88,dP D_zlf)]):=ya ycu.e <| ya y3s.e <| ya ytu.e <| ya yoz.e <| ya yvt.e <| ye _
theorem DZ:DOk Tryz.prog (Go.Ab.DD [(84,dP D_zjf),(85,dP D_zkf),(86,dP D_zte),(87,dP Dz_zsd),(88,dP D_zlf)]):=ya ycu.e <| ya y3s.e <| ya ytu.e <| ya yzy.e <| ya yvt.e <| ye _
theorem dn:type_of% (And.intro @D_zjf.eq_1 <| And.intro @D_zkf.eq_1 <| And.intro @D_zte.eq_1 <| And.intro @D_zsd.eq_1 <| And.intro @D_zlf.eq_1 <| @Dz_zsd.eq_1):=by and_intros<;>intros<;>rfl
theorem den (a0:Mark) (hb0:bdMark a0):Den Tryz.prog 17 [.agg (y6c a0)] (.bool (zoc a0)):=by
 generalize hR:zoc a0=r
 unfold zoc at hR
 refine di Tryz.func17 Tryz.ntmps17 Tryz.results17 ?_
 intro c hL hc hk
 obtain⟨hL0,_⟩:=hL
 have hw0:bwMark a0:=ycd a0 hL0
 clear hL0
 simp only[pars,Nat.zero_add]
 iterate 2 refine rS ?_
 refine AWP.cond rfl (fun hb => ?_) (fun hb => ?_)
 ·replace hR:=ct hR
  refine rS ?_
  refine AWP.ret ?_
  subst hR
  exact es
 ·replace hR:=cf hR
  refine rZ 32 ?_
  refine AWP.ret ?_
  subst hR
  exact es
end N17
def D_zoc : DF
 | [x0]=>some (.bool (zoc (rdG y4d x0)),false,[wG y6c y4d x0,bdMark (rdG y4d x0)])
 | _=>none
theorem y2m:OkD Tryz.prog 17 D_zoc:=by unfold D_zoc;exact dk N17.den
end Go.Ab

namespace Go.Ab
open Go Go.Proofs
def zyf (a0:Int):Bool:=
 (decide (48≤a0) && decide (a0≤57))
namespace N282
theorem DD:DOk Tryz.prog (Go.Ab.DD []):=ye _
theorem den (a0:Int)  : Den Tryz.prog 282 [.int .u8 a0] (.bool (zyf a0)):=by
 generalize hR:zyf a0=r
 unfold zyf at hR
 refine di Tryz.func282 Tryz.ntmps282 Tryz.results282 ?_
 intro c hL hc hk
 clear hL
 simp only[pars,Nat.zero_add]
 iterate 2 refine rS ?_
 refine AWP.ret ?_
 subst hR
 exact es
end N282
def D_zyf : DF
 | [x0]=>some (.bool (zyf (rdI x0)),false,[wI .u8 x0])
 | _=>none
theorem y90:OkD Tryz.prog 282 D_zyf:=by unfold D_zyf;exact dk N282.den
end Go.Ab

namespace Go.Ab
open Go Go.Proofs
def yku (a0:(List UInt8)) (i1:Nat) (s1:Unit):Except (Bool) (Unit):=
 (bif ((!(decide (97≤((a0.getD i1 0).toNat:Int)) && decide (((a0.getD i1 0).toNat:Int)≤122))) && (((i1:Int) == 0) || (!(zyf ((a0.getD i1 0).toNat:Int)))))then .error false else .ok ())
def zbd (a0:(List UInt8)):Bool:=
 (match yd (yku a0) (a0.length-0) 0 ()with|.error e=>e|.ok s1=>((a0 != []) && (zx (a0.length:Int) 10)))
namespace N210
theorem DD:DOk Tryz.prog (Go.Ab.DD [(160,dP D_zx),(282,dP D_zyf)]):=ya y9f.e <| ya y90.e <| ye _
theorem dn:type_of% (And.intro @D_zx.eq_1 <| @D_zyf.eq_1):=by and_intros<;>intros<;>rfl
theorem den (a0:(List UInt8))  : Den Tryz.prog 210 [.str a0] (.bool (zbd a0)):=by
 generalize hR:zbd a0=r
 unfold zbd at hR
 refine di Tryz.func210 Tryz.ntmps210 Tryz.results210 ?_
 intro c hL hc hk
 obtain⟨hL0,_⟩:=hL
 have hw0:a0.length<9223372036854775808:=Nat.lt_succ_of_le hL0
 clear hL0
 simp only[pars,Nat.zero_add]
 iterate 2 refine rS ?_
 refine AWP.block ?_
 generalize hz1:yd (yku a0) (a0.length-0) 0 ()=z1 at hR
 refine AWP.range (yku a0) (fun i1 s1=>⟨[(0,.str a0),(3,.int .i64 (i1:Int))],[]⟩) (fun i1 s1=>True) (a0.length) 0 () [] hz1 ot wt sm ?_
 clear hz1
 intro i1 s1 hi1 hW1 hz1
 refine rS ?_
 refine AWP.cond rfl (fun hb => ?_) (fun hb => ?_)
 ·have hlt1:i1<a0.length:=ot
  rw[yh hlt1]at hz1;simp only[yku]at hz1
  iterate 2 refine rS ?_
  refine AWP.cond rfl (fun hb => ?_) (fun hb => ?_)
  ·simp only[hb,cond_true]at hz1
   refine rS ?_
   refine AWP.ret ?_
   subst hz1
   dsimp only at hR
   subst hR
   exact es
  ·simp only[hb,cond_false]at hz1
   refine rS ?_
   exact⟨_,[],hlt1,wt,hz1,sm⟩
 ·obtain rfl:i1=a0.length:=ot
  rw[yg (Nat.le_refl _)]at hz1;subst hz1;dsimp only at hR
  refine AWP.exit ?_;refine yb ?_
  refine rS ?_
  refine AWP.ret ?_
  subst hR
  exact es
end N210
def D_zbd : DF
 | [x0]=>some (.bool (zbd (rdS x0)),false,[wS x0])
 | _=>none
theorem yxu:OkD Tryz.prog 210 D_zbd:=by unfold D_zbd;exact dk N210.den
end Go.Ab

namespace Go.Ab
open Go Go.Proofs
def yvq (a0:(List Int)) (i1:Nat) (s1:Int):Except (Bool) (Int):=
 (bif (!(zf (a0.getD i1 default) 1 9))then .error false else .ok (IntKind.wrap .i64 (s1+(a0.getD i1 default))))
def zkd (a0:(List Int)):Bool:=
 (match yd (yvq a0) (a0.length-0) 0 0 with|.error e=>e|.ok s1=>(((zx (a0.length:Int) 4) && decide (s1≤12)) && (!(zic a0 ([1]:List Int)))))
namespace N266
theorem DD:DOk Tryz.prog (Go.Ab.DD [(160,dP D_zx),(181,dP D_zf),(93,dP D_zic)]):=ya y9f.e <| ya y2c.e <| ya ywt.e <| ye _
theorem dn:type_of% (And.intro @D_zx.eq_1 <| And.intro @D_zf.eq_1 <| @D_zic.eq_1):=by and_intros<;>intros<;>rfl
theorem ol:type_of% (@zf.eq_1):=@zf.eq_1
theorem den (a0:(List Int))  : Den Tryz.prog 266 [encL 1 yt a0] (.bool (zkd a0)):=by
 generalize hR:zkd a0=r
 unfold zkd at hR
 refine di Tryz.func266 Tryz.ntmps266 Tryz.results266 ?_
 intro c hL hc hk
 obtain⟨hL0,_⟩:=hL
 have hw0:a0.length<9223372036854775808:=Nat.lt_succ_of_le (yf hL0).1
 clear hL0
 simp only[pars,Nat.zero_add]
 iterate 3 refine rS ?_
 refine AWP.block ?_
 generalize hz1:yd (yvq a0) (a0.length-0) 0 0=z1 at hR
 refine AWP.range (yvq a0) (fun i1 s1=>⟨[(0,encL 1 yt a0),(3,.int .i64 s1),(6,encL 1 yt a0),(7,.int .i64 (a0.length:Int)),(8,.int .i64 (i1:Int))],[]⟩) (fun i1 s1=>True) (a0.length) 0 0 [] hz1 ot wt sm ?_
 clear hz1
 intro i1 s1 hi1 hW1 hz1
 refine rS ?_
 refine AWP.seq ?_
 refine AWP.cond rfl (fun hb => ?_) (fun hb => ?_)
 ·have hlt1:i1<a0.length:=ot
  rw[yh hlt1]at hz1;simp only[yvq]at hz1
  iterate 2 refine rS ?_
  refine AWP.cond rfl (fun hb => ?_) (fun hb => ?_)
  ·simp only[hb,cond_true]at hz1
   refine rS ?_
   refine AWP.ret ?_
   subst hz1
   dsimp only at hR
   subst hR
   exact es
  ·simp only[hb,cond_false]at hz1
   iterate 2 refine rS ?_
   exact⟨_,[],hlt1,wt,hz1,sm⟩
 ·obtain rfl:i1=a0.length:=ot
  rw[yg (Nat.le_refl _)]at hz1;subst hz1;dsimp only at hR
  refine AWP.exit ?_;refine yb ?_
  refine rS ?_
  refine AWP.ret ?_
  subst hR
  exact es
end N266
def D_zkd : DF
 | [x0]=>some (.bool (zkd (rdL y0b x0)),false,[wL 1 yt y0b x0])
 | _=>none
theorem yg3:OkD Tryz.prog 266 D_zkd:=by unfold D_zkd;exact dk N266.den
end Go.Ab

namespace Go.Ab
open Go Go.Proofs
def ysh (a0:(List UInt8)) (i1:Nat) (s1:Int):Except (Bool) (Int):=
 (bif decide ((zme [87,82,71,89] ((a0.getD i1 0).toNat:Int))≤s1)then .error false else .ok (zme [87,82,71,89] ((a0.getD i1 0).toNat:Int)))
def zrb (a0:(List UInt8)):Bool:=
 (match yd (ysh a0) (a0.length-0) 0 (-1)with|.error e=>e|.ok s1=>(zf (a0.length:Int) 1 3))
namespace N189
theorem DD:DOk Tryz.prog (Go.Ab.DD [(181,dP D_zf),(265,dP D_zme)]):=ya y2c.e <| ya y00.e <| ye _
theorem dn:type_of% (And.intro @D_zf.eq_1 <| @D_zme.eq_1):=by and_intros<;>intros<;>rfl
theorem ol:type_of% (@zf.eq_1):=@zf.eq_1
theorem den (a0:(List UInt8))  : Den Tryz.prog 189 [.str a0] (.bool (zrb a0)):=by
 generalize hR:zrb a0=r
 unfold zrb at hR
 refine di Tryz.func189 Tryz.ntmps189 Tryz.results189 ?_
 intro c hL hc hk
 obtain⟨hL0,_⟩:=hL
 have hw0:a0.length<9223372036854775808:=Nat.lt_succ_of_le hL0
 clear hL0
 simp only[pars,Nat.zero_add]
 iterate 3 refine rS ?_
 refine AWP.block ?_
 generalize hz1:yd (ysh a0) (a0.length-0) 0 (-1)=z1 at hR
 refine AWP.range (ysh a0) (fun i1 s1=>⟨[(0,.str a0),(3,.int .i64 s1),(4,.int .i64 (i1:Int))],[]⟩) (fun i1 s1=>True) (a0.length) 0 (-1) [] hz1 ot wt sm ?_
 clear hz1
 intro i1 s1 hi1 hW1 hz1
 refine rS ?_
 refine AWP.cond rfl (fun hb => ?_) (fun hb => ?_)
 ·have hlt1:i1<a0.length:=ot
  rw[yh hlt1]at hz1;simp only[ysh]at hz1
  iterate 2 refine rS ?_
  refine AWP.cond rfl (fun hb => ?_) (fun hb => ?_)
  ·simp only[hb,cond_true]at hz1
   refine rS ?_
   refine AWP.ret ?_
   subst hz1
   dsimp only at hR
   subst hR
   exact es
  ·simp only[hb,cond_false]at hz1
   iterate 2 refine rS ?_
   exact⟨_,[],hlt1,wt,hz1,sm⟩
 ·obtain rfl:i1=a0.length:=ot
  rw[yg (Nat.le_refl _)]at hz1;subst hz1;dsimp only at hR
  refine AWP.exit ?_;refine yb ?_
  refine rS ?_
  refine AWP.ret ?_
  subst hR
  exact es
end N189
def D_zrb : DF
 | [x0]=>some (.bool (zrb (rdS x0)),false,[wS x0])
 | _=>none
theorem y1z:OkD Tryz.prog 189 D_zrb:=by unfold D_zrb;exact dk N189.den
end Go.Ab

namespace Go.Ab
open Go Go.Proofs
def znb (a0:(List UInt8)):(List UInt8):=
 (bif ((((a0.length:Int) != 1) || Op.bytesLess a0 [65]) || !(Op.bytesLess a0 [90] || a0 == [90]))then[]else([[46,45],[45,46,46,46],[45,46,45,46],[45,46,46],[46],[46,46,45,46],[45,45,46],[46,46,46,46],[46,46],[46,45,45,45],[45,46,45],[46,45,46,46],[45,45],[45,46],[45,45,45],[46,45,45,46],[45,45,46,45],[46,45,46],[46,46,46],[45],[46,46,45],[46,46,46,45],[46,45,45],[45,46,46,45],[45,46,45,45],[45,45,46,46]]:List (List UInt8)).getD ((IntKind.wrap .u8 (((a0.getD 0 0).toNat:Int)-65)).toNat) [])
namespace N267
theorem DD:DOk Tryz.prog (Go.Ab.DD []):=ye _
theorem o0 {p:Prop} (h:p:=by(first|(simp only[Bool.or_eq_false_iff,Bool.not_eq_false',Bool.or_eq_true,bne_eq_false_iff_eq]at hb;have h9:=ye2 a0 hb;have h8:=hb.1.1;and_intros<;>omega));first|done|fail):p:=h
theorem den (a0:(List UInt8))  : Den Tryz.prog 267 [.str a0] (.str (znb a0)):=by
 generalize hR:znb a0=r
 unfold znb at hR
 refine di Tryz.func267 Tryz.ntmps267 Tryz.results267 ?_
 intro c hL hc hk
 obtain⟨hL0,_⟩:=hL
 have hw0:a0.length<9223372036854775808:=Nat.lt_succ_of_le hL0
 clear hL0
 simp only[pars,Nat.zero_add]
 iterate 2 refine rS ?_
 refine AWP.cond rfl (fun hb => ?_) (fun hb => ?_)
 ·replace hR:=ct hR
  refine rS ?_
  refine AWP.ret ?_
  subst hR
  exact es
 ·replace hR:=cf hR
  refine rS ?_
  refine AWP.ret ?_
  subst hR
  exact es
end N267
def D_znb : DF
 | [x0]=>some (.str (znb (rdS x0)),false,[wS x0])
 | _=>none
theorem yqu:OkD Tryz.prog 267 D_znb:=by unfold D_znb;exact dk N267.den
end Go.Ab

namespace Go.Ab
open Go Go.Proofs
def zbb (a0:Character):Bool:=
 (bif (a0.Kind == 1)then(((a0.Group.length:Int) == 0) && (a0.Letter == []))else(bif (a0.Kind == 3)then(((a0.Group.length:Int) == 0) && (a0.Letter == []))else(bif (a0.Kind == 2)then((a0.Letter == []) && (zkd a0.Group))else(bif (a0.Kind == 4)then((a0.Letter == []) && (zkd a0.Group))else(bif (a0.Kind == 5)then((a0.Letter == []) && (zkd a0.Group))else(bif (a0.Kind == 6)then(bif (a0.Letter == [])then(((a0.Group.length:Int) == 0) || (((a0.Group.length:Int) == 1) && (zf (a0.Group.getD 0 default) 2 9)))else((a0.Letter == [76]) && (zic a0.Group ([6]:List Int))))else(bif (a0.Kind == 7)then(bif (a0.Letter == [])then(((a0.Group.length:Int) == 0) || (((a0.Group.length:Int) == 1) && (zf (a0.Group.getD 0 default) 2 9)))else((a0.Letter == [76]) && (zic a0.Group ([6]:List Int))))else(bif (a0.Kind == 8)then(((znb a0.Letter) != []) && ((a0.Group.length:Int) == 0))else false))))))))
namespace N190
theorem DD:DOk Tryz.prog (Go.Ab.DD [(181,dP D_zf),(266,dP D_zkd),(267,dP D_znb),(93,dP D_zic)]):=ya y2c.e <| ya yg3.e <| ya yqu.e <| ya ywt.e <| ye _
theorem dn:type_of% (And.intro @D_zf.eq_1 <| And.intro @D_zkd.eq_1 <| And.intro @D_znb.eq_1 <| @D_zic.eq_1):=by and_intros<;>intros<;>rfl
theorem ol:type_of% (@zf.eq_1):=@zf.eq_1
theorem den (a0:Character)  : Den Tryz.prog 190 [.agg (yi a0)] (.bool (zbb a0)):=by
 generalize hR:zbb a0=r
 unfold zbb at hR
 refine di Tryz.func190 Tryz.ntmps190 Tryz.results190 ?_
 intro c hL hc hk
 obtain⟨hL0,_⟩:=hL
 have hw0:bwCharacter a0:=yp a0 hL0
 clear hL0
 simp only[pars,Nat.zero_add]
 iterate 3 refine rS ?_
 refine AWP.cond rfl (fun hb => ?_) (fun hb => ?_)
 ·replace hR:=ct hR
  refine AWP.skip ?_
  refine AWP.cond rfl (fun hb => ?_) (fun hb => ?_)
  ·refine rS ?_
   refine AWP.ret ?_
   subst hR
   exact es
  ·exfalso;simp_all
 ·replace hR:=cf hR
  refine rS ?_
  refine AWP.cond rfl (fun hb => ?_) (fun hb => ?_)
  ·replace hR:=ct hR
   refine rS ?_
   refine AWP.ret ?_
   subst hR
   exact es
  ·replace hR:=cf hR
   refine rS ?_
   refine AWP.cond rfl (fun hb => ?_) (fun hb => ?_)
   ·replace hR:=ct hR
    refine AWP.skip ?_
    refine AWP.cond rfl (fun hb => ?_) (fun hb => ?_)
    ·refine rS ?_
     refine AWP.ret ?_
     subst hR
     exact es
    ·exfalso;simp_all
   ·replace hR:=cf hR
    refine rS ?_
    refine AWP.cond rfl (fun hb => ?_) (fun hb => ?_)
    ·replace hR:=ct hR
     refine AWP.skip ?_
     refine AWP.cond rfl (fun hb => ?_) (fun hb => ?_)
     ·refine rS ?_
      refine AWP.ret ?_
      subst hR
      exact es
     ·exfalso;simp_all
    ·replace hR:=cf hR
     refine rS ?_
     refine AWP.cond rfl (fun hb => ?_) (fun hb => ?_)
     ·replace hR:=ct hR
      refine rS ?_
      refine AWP.ret ?_
      subst hR
      exact es
     ·replace hR:=cf hR
      refine rS ?_
      refine AWP.cond rfl (fun hb => ?_) (fun hb => ?_)
      ·replace hR:=ct hR
       refine AWP.skip ?_
       refine AWP.cond rfl (fun hb => ?_) (fun hb => ?_)
       ·refine rS ?_
        refine AWP.cond rfl (fun hb => ?_) (fun hb => ?_)
        ·replace hR:=ct hR
         refine rS ?_
         refine AWP.ret ?_
         subst hR
         exact es
        ·replace hR:=cf hR
         refine rS ?_
         refine AWP.ret ?_
         subst hR
         exact es
       ·exfalso;simp_all
      ·replace hR:=cf hR
       refine rS ?_
       refine AWP.cond rfl (fun hb => ?_) (fun hb => ?_)
       ·replace hR:=ct hR
        refine rS ?_
        refine AWP.cond rfl (fun hb => ?_) (fun hb => ?_)
        ·replace hR:=ct hR
         refine rS ?_
         refine AWP.ret ?_
         subst hR
         exact es
        ·replace hR:=cf hR
         refine rS ?_
         refine AWP.ret ?_
         subst hR
         exact es
       ·replace hR:=cf hR
        refine rS ?_
        refine AWP.cond rfl (fun hb => ?_) (fun hb => ?_)
        ·replace hR:=ct hR
         refine rS ?_
         refine AWP.ret ?_
         subst hR
         exact es
        ·replace hR:=cf hR
         refine rS ?_
         refine AWP.ret ?_
         subst hR
         exact es
end N190
def D_zbb : DF
 | [x0]=>some (.bool (zbb (rdG yc x0)),false,[wG yi yc x0])
 | _=>none
theorem y71:OkD Tryz.prog 190 D_zbb:=by unfold D_zbb;exact dk N190.den
end Go.Ab

namespace Go.Ab
open Go Go.Proofs
theorem y4i (a:List UInt8):znb a=if a.length=1∧65≤(a.getD 0 0).toNat∧(a.getD 0 0).toNat≤90 then y4c.getD ((a.getD 0 0).toNat-65) []else[]:=by
 unfold znb
 by_cases h1:a.length=1
 ·have c1:((a.length:Int) != 1)=false:=by rw[h1];rfl
  rw[c1,y9g a 65 h1,y9g a 90 h1,y2y a 90 h1]
  have e1:(65:UInt8).toNat=65:=rfl
  have e2:(90:UInt8).toNat=90:=rfl
  rw[e1,e2]
  by_cases h2:65≤(a.getD 0 0).toNat∧(a.getD 0 0).toNat≤90
  ·rw[if_pos ⟨h1,h2⟩,decide_eq_false (by omega)]
   have c2:(decide ((a.getD 0 0).toNat<90) || decide ((a.getD 0 0).toNat=90))=true:=by
    rw[Bool.or_eq_true,decide_eq_true_eq,decide_eq_true_eq];omega
   rw[c2]
   simp only[Bool.or_self,Bool.not_true,cond_false]
   rw[y9j _ (by omega) (by omega),show((((a.getD 0 0).toNat:Int)-65).toNat)=(a.getD 0 0).toNat-65 by omega]
   rfl
  ·rw[if_neg (fun h=>h2 h.2)]
   by_cases h3:(a.getD 0 0).toNat<65
   ·rw[decide_eq_true h3];rfl
   ·have c2:(decide ((a.getD 0 0).toNat<90) || decide ((a.getD 0 0).toNat=90))=false:=by
     rw[decide_eq_false (by omega),decide_eq_false (by omega)];rfl
    rw[c2,decide_eq_false h3];rfl
 ·have c1:((a.length:Int) != 1)=true:=by rw[bne_iff_ne];omega
  rw[c1,if_neg (fun h=>h1 h.1)]
  rfl
theorem yxw (a:List UInt8):(znb a).length≤4:=by
 rw[y4i]
 split
 ·exact y6j _
 ·simp
theorem yrr (a:List UInt8):∀ x∈znb a,x.toNat<128:=by
 intro x hx
 rw[y4i]at hx
 split at hx
 ·rw[List.getD_eq_getElem?_getD]at hx
  cases h:y4c[(a.getD 0 0).toNat-65]? with
  | none=>rw[h]at hx;simp at hx
  | some y=>
   rw[h]at hx
   rcases(yah y (List.mem_of_getElem? h)).2.2 x hx with e|e<;>subst e<;>decide
 ·simp at hx
end Go.Ab

namespace Go.Ab
open Go Go.Proofs
def zgg (a0:Int):Bool:=
 ((a0 == 6) || (a0 == 7))
namespace N268
theorem DD:DOk Tryz.prog (Go.Ab.DD []):=ye _
theorem den (a0:Int)  : Den Tryz.prog 268 [.int .i64 a0] (.bool (zgg a0)):=by
 generalize hR:zgg a0=r
 unfold zgg at hR
 refine di Tryz.func268 Tryz.ntmps268 Tryz.results268 ?_
 intro c hL hc hk
 clear hL
 simp only[pars,Nat.zero_add]
 iterate 2 refine rS ?_
 refine AWP.ret ?_
 subst hR
 exact es
end N268
def D_zgg : DF
 | [x0]=>some (.bool (zgg (rdI x0)),false,[wI .i64 x0])
 | _=>none
theorem yn2:OkD Tryz.prog 268 D_zgg:=by unfold D_zgg;exact dk N268.den
end Go.Ab

namespace Go.Ab
open Go Go.Proofs
def ztc (a0:Character):Bool:=
 ((a0.Kind == 1) || ((zgg a0.Kind) && ((a0.Group.length:Int) == 0)))
namespace N191
theorem DD:DOk Tryz.prog (Go.Ab.DD [(268,dP D_zgg)]):=ya yn2.e <| ye _
theorem dn:type_of% (@D_zgg.eq_1):=by and_intros<;>intros<;>rfl
theorem den (a0:Character)  : Den Tryz.prog 191 [.agg (yi a0)] (.bool (ztc a0)):=by
 generalize hR:ztc a0=r
 unfold ztc at hR
 refine di Tryz.func191 Tryz.ntmps191 Tryz.results191 ?_
 intro c hL hc hk
 obtain⟨hL0,_⟩:=hL
 have hw0:bwCharacter a0:=yp a0 hL0
 clear hL0
 simp only[pars,Nat.zero_add]
 iterate 2 refine rS ?_
 refine AWP.ret ?_
 subst hR
 exact es
end N191
def D_ztc : DF
 | [x0]=>some (.bool (ztc (rdG yc x0)),false,[wG yi yc x0])
 | _=>none
theorem yws:OkD Tryz.prog 191 D_ztc:=by unfold D_ztc;exact dk N191.den
end Go.Ab

namespace Go.Ab
open Go Go.Proofs
def zv (a0:Int):(Int×Int×Int):=
 (bif (a0 == 2)then(10,10,15)else(bif (a0 == 4)then(5,15,20)else(bif (a0 == 5)then(20,20,25)else(bif (a0 == 6)then(5,5,20)else(bif (a0 == 7)then(2,3,10)else(bif (a0 == 8)then(5,5,30)else(0,0,0)))))))
namespace N269
theorem DD:DOk Tryz.prog (Go.Ab.DD []):=ye _
theorem den (a0:Int)  : Den Tryz.prog 269 [.int .i64 a0] (.tup [.int .i64 ((zv a0).1),.int .i64 ((zv a0).2.1),.int .i64 ((zv a0).2.2)]):=by
 generalize hR:zv a0=r
 unfold zv at hR
 refine di Tryz.func269 Tryz.ntmps269 Tryz.results269 ?_
 intro c hL hc hk
 clear hL
 simp only[pars,Nat.zero_add]
 iterate 3 refine rS ?_
 refine AWP.cond rfl (fun hb => ?_) (fun hb => ?_)
 ·replace hR:=ct hR
  refine rS ?_
  refine AWP.ret ?_
  subst hR
  exact es
 ·replace hR:=cf hR
  refine rS ?_
  refine AWP.cond rfl (fun hb => ?_) (fun hb => ?_)
  ·replace hR:=ct hR
   refine rS ?_
   refine AWP.ret ?_
   subst hR
   exact es
  ·replace hR:=cf hR
   refine rS ?_
   refine AWP.cond rfl (fun hb => ?_) (fun hb => ?_)
   ·replace hR:=ct hR
    refine rS ?_
    refine AWP.ret ?_
    subst hR
    exact es
   ·replace hR:=cf hR
    refine rS ?_
    refine AWP.cond rfl (fun hb => ?_) (fun hb => ?_)
    ·replace hR:=ct hR
     refine rS ?_
     refine AWP.ret ?_
     subst hR
     exact es
    ·replace hR:=cf hR
     refine rS ?_
     refine AWP.cond rfl (fun hb => ?_) (fun hb => ?_)
     ·replace hR:=ct hR
      refine rS ?_
      refine AWP.ret ?_
      subst hR
      exact es
     ·replace hR:=cf hR
      refine rS ?_
      refine AWP.cond rfl (fun hb => ?_) (fun hb => ?_)
      ·replace hR:=ct hR
       refine rS ?_
       refine AWP.ret ?_
       subst hR
       exact es
      ·replace hR:=cf hR
       refine rS ?_
       refine AWP.ret ?_
       subst hR
       exact es
end N269
def D_zv : DF
 | [x0]=>some (.tup [.int .i64 ((zv (rdI x0)).1),.int .i64 ((zv (rdI x0)).2.1),.int .i64 ((zv (rdI x0)).2.2)],false,[wI .i64 x0])
 | _=>none
theorem ydz:OkD Tryz.prog 269 D_zv:=by unfold D_zv;exact dk N269.den
end Go.Ab

namespace Go.Ab
open Go Go.Proofs
def y4s (a0:(List Int)) (i1:Nat) (s1:Int):Except (Int) (Int):=
 .ok (IntKind.wrap .i64 (s1+(a0.getD i1 default)))
def zde (a0:(List Int)):Int:=
 (match yd (y4s a0) (a0.length-0) 0 0 with|.error e=>e|.ok s1=>s1)
namespace N270
theorem DD:DOk Tryz.prog (Go.Ab.DD []):=ye _
theorem den (a0:(List Int))  : Den Tryz.prog 270 [encL 1 yt a0] (.int .i64 (zde a0)):=by
 generalize hR:zde a0=r
 unfold zde at hR
 refine di Tryz.func270 Tryz.ntmps270 Tryz.results270 ?_
 intro c hL hc hk
 obtain⟨hL0,_⟩:=hL
 have hw0:a0.length<9223372036854775808:=Nat.lt_succ_of_le (yf hL0).1
 clear hL0
 simp only[pars,Nat.zero_add]
 iterate 3 refine rS ?_
 refine AWP.block ?_
 generalize hz1:yd (y4s a0) (a0.length-0) 0 0=z1 at hR
 refine AWP.range (y4s a0) (fun i1 s1=>⟨[(3,.int .i64 s1),(6,encL 1 yt a0),(7,.int .i64 (a0.length:Int)),(8,.int .i64 (i1:Int))],[]⟩) (fun i1 s1=>True) (a0.length) 0 0 [] hz1 ot wt sm ?_
 clear hz1
 intro i1 s1 hi1 hW1 hz1
 refine rS ?_
 refine AWP.seq ?_
 refine AWP.cond rfl (fun hb => ?_) (fun hb => ?_)
 ·have hlt1:i1<a0.length:=ot
  rw[yh hlt1]at hz1;simp only[y4s]at hz1
  iterate 3 refine rS ?_
  exact⟨_,[],hlt1,wt,hz1,sm⟩
 ·obtain rfl:i1=a0.length:=ot
  rw[yg (Nat.le_refl _)]at hz1;subst hz1;dsimp only at hR
  refine AWP.exit ?_;refine yb ?_
  refine rS ?_
  refine AWP.ret ?_
  subst hR
  exact es
end N270
def D_zde : DF
 | [x0]=>some (.int .i64 (zde (rdL y0b x0)),false,[wL 1 yt y0b x0])
 | _=>none
theorem yd2:OkD Tryz.prog 270 D_zde:=by unfold D_zde;exact dk N270.den
end Go.Ab

namespace Go.Ab
open Go Go.Proofs
def yjp (a0:(List Sector)) (i1:Nat) (s1:List UInt8) (i2:Nat) (s2:List UInt8):Except ((List UInt8)) (List UInt8):=
 (bif ((((a0.getD i2 default).Color) == (([87,82,71,89].take ((IntKind.wrap .i64 ((i1:Int)+1)).toNat)).drop i1)) && (!(zqb s2 (([87,82,71,89].take ((IntKind.wrap .i64 ((i1:Int)+1)).toNat)).drop i1))))then .ok (s2++(([87,82,71,89].take ((IntKind.wrap .i64 ((i1:Int)+1)).toNat)).drop i1))else .ok s2)
def y0l (a0:(List Sector)) (i1:Nat) (s1:List UInt8):Except ((List UInt8)) (List UInt8):=
 (match yd (yjp a0 i1 s1) (a0.length-0) 0 s1 with|.error e=>.error e|.ok s2=>.ok s2)
def zjc (a0:(List Sector)):(List UInt8):=
 (match yd (y0l a0) ([87,82,71,89].length-0) 0 []with|.error e=>e|.ok s1=>s1)
namespace N216
theorem DD:DOk Tryz.prog (Go.Ab.DD [(286,dP D_zqb)]):=ya y2t.e <| ye _
theorem dn:type_of% (@D_zqb.eq_1):=by and_intros<;>intros<;>rfl
theorem o0 {p:Prop} (h:p:=by(first|(have h4:=hq4 i1;have h1:=hW1;have h2:=hW2;and_intros<;>first|omega|exact ysu (by omega)));first|done|fail):p:=h
theorem den (a0:(List Sector)) (hb0:a0.length<1099511627776) (hb1:∀ v∈a0,bdSector v):Den Tryz.prog 216 [encL 3 ym a0] (.str (zjc a0)):=by
 generalize hR:zjc a0=r
 unfold zjc at hR
 refine di Tryz.func216 Tryz.ntmps216 Tryz.results216 ?_
 intro c hL hc hk
 obtain⟨hL0,_⟩:=hL
 have hw0:a0.length<9223372036854775808:=Nat.lt_succ_of_le (yf hL0).1
 have hw1:∀ v∈a0,bwSector v:=fun v hv=>yw v ((yf hL0).2 v hv)
 clear hL0
 simp only[pars,Nat.zero_add]
 have hq4:=ym1
 iterate 3 refine rS ?_
 refine AWP.block ?_
 generalize hz1:yd (y0l a0) ([87,82,71,89].length-0) 0 []=z1 at hR
 refine AWP.range (y0l a0) (fun i1 s1=>⟨[(0,encL 3 ym a0),(3,.str s1),(8,.ptr 0 0)],[.it [87,82,71,89] i1 (decide (i1<[87,82,71,89].length))]⟩) (fun i1 s1=>s1.length≤1099511627776 * i1) ([87,82,71,89].length) 0 [] [0] hz1 ot (by(simp)) sm ?_
 clear hz1
 intro i1 s1 hi1 hW1 hz1
 refine AWP.seq ?_
 by_cases hlt1:i1<[87,82,71,89].length
 ·rw[yh hlt1]at hz1;simp only[y0l]at hz1
  rw[decide_eq_true hlt1]
  refine rS ?_
  refine AWP.seq ?_
  refine AWP.cond rfl (fun hb => ?_) (fun hb=>by cases hb)
  iterate 2 refine rS ?_
  refine AWP.block ?_
  generalize hz2:yd (yjp a0 i1 s1) (a0.length-0) 0 s1=z2 at hz1
  refine AWP.range (yjp a0 i1 s1) (fun i2 s2=>⟨[(0,encL 3 ym a0),(3,.str s2),(4,.int .i64 (i1:Int)),(8,.ptr 0 0),(12,encL 3 ym a0),(13,.int .i64 (a0.length:Int)),(14,.int .i64 (i2:Int))],[.it [87,82,71,89] (i1+1) (decide (i1+1<[87,82,71,89].length))]⟩) (fun i2 s2=>s2.length≤1099511627776 * i1+i2) (a0.length) 0 s1 [0] hz2 ot (by(exact hW1)) sm ?_
  clear hz2
  intro i2 s2 hi2 hW2 hz2
  refine rS ?_
  refine AWP.seq ?_
  refine AWP.cond rfl (fun hb => ?_) (fun hb => ?_)
  ·have hlt2:i2<a0.length:=ot
   rw[yh hlt2]at hz2;simp only[yjp]at hz2
   iterate 3 refine rS ?_
   refine AWP.cond rfl (fun hb => ?_) (fun hb => ?_)
   ·simp only[hb,cond_true]at hz2
    iterate 2 refine rS ?_
    exact⟨_,[0],hlt2,by(have h4:=hq4 i1;have h2:=hW2;simp only[ln]at *;omega),hz2,sm⟩
   ·simp only[hb,cond_false]at hz2
    refine rS ?_
    exact⟨_,[0],hlt2,by(have h4:=hq4 i1;have h2:=hW2;simp only[ln]at *;omega),hz2,sm⟩
  ·obtain rfl:i2=a0.length:=ot
   rw[yg (Nat.le_refl _)]at hz2;subst hz2;dsimp only at hz1
   refine AWP.exit ?_;refine yb ?_
   exact⟨_,[0],hlt1,by(have h1:=hW1;omega),hz1,sm⟩
 ·obtain rfl:i1=[87,82,71,89].length:=by omega
  rw[yg (Nat.le_refl _)]at hz1;subst hz1;dsimp only at hR
  simp only[Nat.lt_irrefl,decide_false]
  refine rS ?_
  refine AWP.seq ?_
  refine AWP.cond rfl (fun hb=>by cases hb) (fun hb => ?_)
  refine AWP.exit ?_;refine yb ?_
  refine rS ?_
  refine AWP.ret ?_
  subst hR
  exact es
end N216
def D_zjc : DF
 | [x0]=>some (.str (zjc (rdL yq x0)),false,[wL 3 ym yq x0,(rdL yq x0).length<1099511627776,∀ v∈(rdL yq x0),bdSector v])
 | _=>none
theorem yi3:OkD Tryz.prog 216 D_zjc:=by unfold D_zjc;exact dk N216.den
end Go.Ab

namespace Go.Ab
open Go Go.Proofs
def ypm (a0:(List Int)) (a1:(List Int)) (i1:Nat) (s1:Unit):Except (Bool) (Unit):=
 (bif ((a0.getD i1 default) != (a1.getD i1 default))then .error false else .ok ())
def ztd (a0:(List Int)) (a1:(List Int)):Bool:=
 (bif ((a0.length:Int) != (a1.length:Int))then false else(match yd (ypm a0 a1) (a0.length-0) 0 ()with|.error e=>e|.ok s1=>true))
namespace N247
theorem DD:DOk Tryz.prog (Go.Ab.DD []):=ye _
theorem den (a0:(List Int)) (a1:(List Int))  : Den Tryz.prog 247 [encL 1 yt a0,encL 1 yt a1] (.bool (ztd a0 a1)):=by
 generalize hR:ztd a0 a1=r
 unfold ztd at hR
 refine di Tryz.func247 Tryz.ntmps247 Tryz.results247 ?_
 intro c hL hc hk
 obtain⟨hL0,hL1,_⟩:=hL
 have hw0:a0.length<9223372036854775808:=Nat.lt_succ_of_le (yf hL0).1
 have hw1:a1.length<9223372036854775808:=Nat.lt_succ_of_le (yf hL1).1
 clear hL0 hL1
 simp only[pars,Nat.zero_add]
 iterate 2 refine rS ?_
 refine AWP.cond rfl (fun hb => ?_) (fun hb => ?_)
 ·replace hR:=ct hR
  refine rS ?_
  refine AWP.ret ?_
  subst hR
  exact es
 ·replace hR:=cf hR
  refine rS ?_
  refine AWP.block ?_
  generalize hz1:yd (ypm a0 a1) (a0.length-0) 0 ()=z1 at hR
  refine AWP.range (ypm a0 a1) (fun i1 s1=>⟨[(0,encL 1 yt a0),(1,encL 1 yt a1),(12,.int .i64 (a0.length:Int)),(13,.int .i64 (i1:Int))],[]⟩) (fun i1 s1=>True) (a0.length) 0 () [] hz1 ot wt sm ?_
  clear hz1
  intro i1 s1 hi1 hW1 hz1
  refine rS ?_
  refine AWP.seq ?_
  refine AWP.cond rfl (fun hb => ?_) (fun hb => ?_)
  ·have hlt1:i1<a0.length:=ot
   rw[yh hlt1]at hz1;simp only[ypm]at hz1
   refine rS ?_
   refine rD 8 ?_
   refine AWP.cond rfl (fun hb => ?_) (fun hb => ?_)
   ·simp only[hb,cond_true]at hz1
    refine rS ?_
    refine AWP.ret ?_
    subst hz1
    dsimp only at hR
    subst hR
    exact es
   ·simp only[hb,cond_false]at hz1
    refine rS ?_
    exact⟨_,[],hlt1,wt,hz1,sm⟩
  ·obtain rfl:i1=a0.length:=ot
   rw[yg (Nat.le_refl _)]at hz1;subst hz1;dsimp only at hR
   refine AWP.exit ?_;refine yb ?_
   refine rS ?_
   refine AWP.ret ?_
   subst hR
   exact es
end N247
def D_ztd : DF
 | [x0,x1]=>some (.bool (ztd (rdL y0b x0) (rdL y0b x1)),false,[wL 1 yt y0b x0,wL 1 yt y0b x1])
 | _=>none
theorem y40:OkD Tryz.prog 247 D_ztd:=by unfold D_ztd;exact dk N247.den
end Go.Ab

namespace Go.Ab
open Go Go.Proofs
theorem ydl (a b:List Int):ztd a b=decide (a=b):=by
 unfold ztd
 by_cases hl:a.length=b.length
 ·have h1:((a.length:Int) != (b.length:Int))=false:=by simp[hl]
  rw[h1,cond_false,yjc (b:=ypm a b) (fun j => !decide (a.getD j default=b.getD j default)) false (fun j u _ _=>by simp only[ypm,ned])]
  simp only[Nat.sub_zero,Nat.zero_add]
  rw[ycm a b hl]
  by_cases h:a=b<;>simp[h]
 ·have h1:((a.length:Int) != (b.length:Int))=true:=by simp;omega
  have h2:¬ a=b:=fun e=>hl (by rw[e])
  rw[h1,cond_true,decide_eq_false h2]
end Go.Ab

namespace Go.Ab
open Go Go.Proofs
def zrf (a0:Int):Bool:=
 (zf a0 1 100000000)
namespace N214
theorem DD:DOk Tryz.prog (Go.Ab.DD [(181,dP D_zf)]):=ya y2c.e <| ye _
theorem dn:type_of% (@D_zf.eq_1):=by and_intros<;>intros<;>rfl
theorem ol:type_of% (@zf.eq_1):=@zf.eq_1
theorem den (a0:Int)  : Den Tryz.prog 214 [.int .i64 a0] (.bool (zrf a0)):=by
 generalize hR:zrf a0=r
 unfold zrf at hR
 refine di Tryz.func214 Tryz.ntmps214 Tryz.results214 ?_
 intro c hL hc hk
 clear hL
 simp only[pars,Nat.zero_add]
 iterate 2 refine rS ?_
 refine AWP.ret ?_
 subst hR
 exact es
end N214
def D_zrf : DF
 | [x0]=>some (.bool (zrf (rdI x0)),false,[wI .i64 x0])
 | _=>none
theorem y81:OkD Tryz.prog 214 D_zrf:=by unfold D_zrf;exact dk N214.den
end Go.Ab

namespace Go.Ab
open Go Go.Proofs
def zzf (a0:Character) (a1:Character):Bool:=
 (((((a0.Kind == a1.Kind) && (ztd a0.Group a1.Group)) && (a0.Letter == a1.Letter)) && (a0.Colors == a1.Colors)) && (a0.Period == a1.Period))
namespace N150
theorem DD:DOk Tryz.prog (Go.Ab.DD [(247,dP D_ztd)]):=ya y40.e <| ye _
theorem dn:type_of% (@D_ztd.eq_1):=by and_intros<;>intros<;>rfl
theorem den (a0:Character) (a1:Character)  : Den Tryz.prog 150 [.agg (yi a0),.agg (yi a1)] (.bool (zzf a0 a1)):=by
 generalize hR:zzf a0 a1=r
 unfold zzf at hR
 refine di Tryz.func150 Tryz.ntmps150 Tryz.results150 ?_
 intro c hL hc hk
 obtain⟨hL0,hL1,_⟩:=hL
 have hw0:bwCharacter a0:=yp a0 hL0
 have hw1:bwCharacter a1:=yp a1 hL1
 clear hL0 hL1
 simp only[pars,Nat.zero_add]
 iterate 2 refine rS ?_
 refine AWP.ret ?_
 subst hR
 exact es
end N150
def D_zzf : DF
 | [x0,x1]=>some (.bool (zzf (rdG yc x0) (rdG yc x1)),false,[wG yi yc x0,wG yi yc x1])
 | _=>none
theorem y62:OkD Tryz.prog 150 D_zzf:=by unfold D_zzf;exact dk N150.den
end Go.Ab

namespace Go.Ab
open Go Go.Proofs
def zsf (a0:Aid):Bool:=
 (((zzf a0.Light ({ Kind:=0,Group:=[],Letter:=[],Colors:=[],Period:=0:Character })) && ((a0.Sectors.length:Int) == 0)) && (a0.Intensity == 0))
namespace N213
theorem DD:DOk Tryz.prog (Go.Ab.DD [(150,dP D_zzf)]):=ya y62.e <| ye _
theorem dn:type_of% (@D_zzf.eq_1):=by and_intros<;>intros<;>rfl
theorem den (a0:Aid)  : Den Tryz.prog 213 [.agg (eAid a0)] (.bool (zsf a0)):=by
 generalize hR:zsf a0=r
 unfold zsf at hR
 refine di Tryz.func213 Tryz.ntmps213 Tryz.results213 ?_
 intro c hL hc hk
 obtain⟨hL0,_⟩:=hL
 have hw0:bwAid a0:=yuc a0 hL0
 clear hL0
 simp only[pars,Nat.zero_add]
 iterate 2 refine rS ?_
 refine AWP.ret ?_
 subst hR
 exact es
end N213
def D_zsf : DF
 | [x0]=>some (.bool (zsf (rdG dAid x0)),false,[wG eAid dAid x0])
 | _=>none
theorem yw2:OkD Tryz.prog 213 D_zsf:=by unfold D_zsf;exact dk N213.den
end Go.Ab

namespace Go.Ab
open Go Go.Proofs
def zag (a0:Int):Bool:=
 (zf a0 1 9999)
namespace N209
theorem DD:DOk Tryz.prog (Go.Ab.DD [(181,dP D_zf)]):=ya y2c.e <| ye _
theorem dn:type_of% (@D_zf.eq_1):=by and_intros<;>intros<;>rfl
theorem ol:type_of% (@zf.eq_1):=@zf.eq_1
theorem den (a0:Int)  : Den Tryz.prog 209 [.int .i64 a0] (.bool (zag a0)):=by
 generalize hR:zag a0=r
 unfold zag at hR
 refine di Tryz.func209 Tryz.ntmps209 Tryz.results209 ?_
 intro c hL hc hk
 clear hL
 simp only[pars,Nat.zero_add]
 iterate 2 refine rS ?_
 refine AWP.ret ?_
 subst hR
 exact es
end N209
def D_zag : DF
 | [x0]=>some (.bool (zag (rdI x0)),false,[wI .i64 x0])
 | _=>none
theorem y52:OkD Tryz.prog 209 D_zag:=by unfold D_zag;exact dk N209.den
end Go.Ab

namespace Go.Ab
open Go Go.Proofs
def zcd (a0:Point):Bool:=
 ((zf a0.X 0 200000) && (zf a0.Y 0 200000))
namespace N211
theorem DD:DOk Tryz.prog (Go.Ab.DD [(181,dP D_zf)]):=ya y2c.e <| ye _
theorem dn:type_of% (@D_zf.eq_1):=by and_intros<;>intros<;>rfl
theorem ol:type_of% (@zf.eq_1):=@zf.eq_1
theorem den (a0:Point)  : Den Tryz.prog 211 [.agg (y3c a0)] (.bool (zcd a0)):=by
 generalize hR:zcd a0=r
 unfold zcd at hR
 refine di Tryz.func211 Tryz.ntmps211 Tryz.results211 ?_
 intro c hL hc hk
 clear hL
 simp only[pars,Nat.zero_add]
 iterate 2 refine rS ?_
 refine AWP.ret ?_
 subst hR
 exact es
end N211
def D_zcd : DF
 | [x0]=>some (.bool (zcd (rdG yye x0)),false,[wG y3c yye x0])
 | _=>none
theorem ynn:OkD Tryz.prog 211 D_zcd:=by unfold D_zcd;exact dk N211.den
end Go.Ab

namespace Go.Ab
open Go Go.Proofs
def zbg (a0:Int):Bool:=
 (zf a0 0 3000)
namespace N212
theorem DD:DOk Tryz.prog (Go.Ab.DD [(181,dP D_zf)]):=ya y2c.e <| ye _
theorem dn:type_of% (@D_zf.eq_1):=by and_intros<;>intros<;>rfl
theorem ol:type_of% (@zf.eq_1):=@zf.eq_1
theorem den (a0:Int)  : Den Tryz.prog 212 [.int .i64 a0] (.bool (zbg a0)):=by
 generalize hR:zbg a0=r
 unfold zbg at hR
 refine di Tryz.func212 Tryz.ntmps212 Tryz.results212 ?_
 intro c hL hc hk
 clear hL
 simp only[pars,Nat.zero_add]
 iterate 2 refine rS ?_
 refine AWP.ret ?_
 subst hR
 exact es
end N212
def D_zbg : DF
 | [x0]=>some (.bool (zbg (rdI x0)),false,[wI .i64 x0])
 | _=>none
theorem yh0:OkD Tryz.prog 212 D_zbg:=by unfold D_zbg;exact dk N212.den
end Go.Ab

namespace Go.Ab
open Go Go.Proofs
def zac (a0:Int):(List UInt8):=
 (zkb a0 ([[],[70],[79,99],[73,115,111],[70,108],[76,70,108],[81],[86,81],[77,111]]:List (List UInt8)))
namespace N263
theorem DD:DOk Tryz.prog (Go.Ab.DD [(90,dP D_zkb)]):=ya yvg.e <| ye _
theorem dn:type_of% (@D_zkb.eq_1):=by and_intros<;>intros<;>rfl
theorem lx {p:Prop} (h:p:=by(exact lxx);first|done|fail):p:=h
theorem den (a0:Int)  : Den Tryz.prog 263 [.int .i64 a0] (.str (zac a0)):=by
 generalize hR:zac a0=r
 unfold zac at hR
 refine di Tryz.func263 Tryz.ntmps263 Tryz.results263 ?_
 intro c hL hc hk
 clear hL
 simp only[pars,Nat.zero_add]
 iterate 2 refine rS ?_
 refine AWP.ret ?_
 subst hR
 exact es
end N263
def D_zac : DF
 | [x0]=>some (.str (zac (rdI x0)),false,[wI .i64 x0])
 | _=>none
theorem ypt:OkD Tryz.prog 263 D_zac:=by unfold D_zac;exact dk N263.den
end Go.Ab
