/- A part of a proof: walks of functions and lemmas of our own. No conditions. -/
import Derived.Test.YtaneiddiakjgdaaGreatDoorWAl
import Derived.Test.YtaneiddiakjgdaaGreatDoorWBb
import Derived.Test.YtaneiddiakjgdaaGreatDoorWAi
import Derived.Test.YtaneiddiakjgdaaGreatDoorWAn
import Derived.Test.YtaneiddiakjgdaaGreatDoorWAo
import Derived.Test.YtaneiddiakjgdaaGreatDoorWAp
import Derived.Test.YtaneiddiakjgdaaGreatDoorWBa
import Derived.Test.YtaneiddiakjgdaaGreatDoorWAz
import Derived.Test.YtaneiddiakjgdaaGreatDoorWAr
set_option linter.unusedSectionVars false
set_option linter.unusedVariables false
set_option linter.unusedSimpArgs false
set_option maxHeartbeats 1000000
namespace Go.Ab
open Go Go.Proofs
def zl (a0:Notice):Notice:=
 { Number:=a0.Number,Day:=a0.Day,Kind:=a0.Kind,Target:=a0.Target,Aid:=zmc a0.Aid:Notice }
namespace N52
theorem DD:DOk Tryz.prog (Go.Ab.DD [(33,dP D_zmc)]):=ya yzs.e <| ye _
theorem dn:type_of% (@D_zmc.eq_1):=by and_intros<;>intros<;>rfl
theorem ol:type_of% (@yfl):=@yfl
theorem den (a0:Notice) (hb0:bdNotice a0):Den Tryz.prog 52 [.agg (eNotice a0)] (.agg (ybb (zl a0))):=by
 generalize hR:zl a0=r
 unfold zl at hR
 refine di Tryz.func52 Tryz.ntmps52 Tryz.results52 ?_
 intro c hL hc hk
 obtain⟨hL0,_⟩:=hL
 have hw0:bwNotice a0:=yg a0 hL0
 clear hL0
 simp only[pars,Nat.zero_add]
 iterate 8 refine rS ?_
 refine AWP.ret ?_
 subst hR
 exact es
end N52
def D_zl : DF
 | [x0]=>some (.agg (ybb (zl (rdG yc x0))),false,[wG eNotice yc x0,bdNotice (rdG yc x0)])
 | _=>none
def Dz_zl : DF
 | [x0]=>some (.agg (ybb (zl (rdG yc x0))),true,[wG eNotice yc x0,bdNotice (rdG yc x0)])
 | _=>none
theorem yvw:OkD Tryz.prog 52 D_zl:=by unfold D_zl;exact dk N52.den
theorem yv0:OkD Tryz.prog 52 Dz_zl:=by unfold Dz_zl;exact dk N52.den
end Go.Ab

namespace Go.Ab
open Go Go.Proofs
theorem y3t (v:Notice):zl v=v:=by
 unfold zl
 simp only[yfl]
end Go.Ab

namespace Go.Ab
open Go Go.Proofs
def yix (a0:(List Notice)) (i1:Nat) (s1:List Notice):Except ((List Notice)) (List Notice):=
 .ok (s1.set i1 (zl (a0.getD i1 default)))
def zf (a0:(List Notice)):(List Notice):=
 (match yh (yix a0) (a0.length-0) 0 (List.replicate a0.length (default:Notice))with|.error e=>e|.ok s1=>s1)
namespace N15
theorem DD:DOk Tryz.prog (Go.Ab.DD [(52,dP D_zl)]):=ya yvw.e <| ye _
theorem dn:type_of% (@D_zl.eq_1):=by and_intros<;>intros<;>rfl
theorem ol:type_of% (@y3t):=@y3t
theorem den (a0:(List Notice)) (hb0:a0.length<1099511627776) (hb1:∀ v∈a0,bdNotice v) (hp0:a0.length≤1048576):Den Tryz.prog 15 [encL 20 eNotice a0] (ownL 90 20 ybb (zf a0)):=by
 generalize hR:zf a0=r
 unfold zf at hR
 refine di Tryz.func15 Tryz.ntmps15 Tryz.results15 ?_
 intro c hL hc hk
 obtain⟨hL0,_⟩:=hL
 have hw0:a0.length<9223372036854775808:=Nat.lt_succ_of_le (yb hL0).1
 have hw1:∀ v∈a0,bwNotice v:=fun v hv=>yg v ((yb hL0).2 v hv)
 clear hL0
 simp only[pars,Nat.zero_add]
 iterate 2 refine rS ?_
 refine AWP.arrS 0 (fun j=>ybb ((List.replicate a0.length (default:Notice)).getD j default)) rfl zs ?_;simp only[setE]
 refine rS ?_
 refine AWP.block ?_
 generalize hz1:yh (yix a0) (a0.length-0) 0 (List.replicate a0.length (default:Notice))=z1 at hR
 refine AWP.range (yix a0) (fun i1 s1=>⟨[(0,encL 20 eNotice a0),(3,.ref 0 20 0 s1.length),(4,.int .i64 (i1:Int))],[.arr 90 20 s1.length (fun j=>ybb (s1.getD j default))]⟩) (fun i1 s1=>s1.length=(List.replicate a0.length (default:Notice)).length) (a0.length) 0 (List.replicate a0.length (default:Notice)) [0] hz1 ot wt sm ?_
 clear hz1
 intro i1 s1 hi1 hW1 hz1
 refine rS ?_
 refine AWP.cond rfl (fun hb => ?_) (fun hb => ?_)
 ·have hlt1:i1<a0.length:=ot
  rw[yj hlt1]at hz1;simp only[yix]at hz1
  iterate 2 refine rS ?_
  exact⟨_,[0],hlt1,wt,hz1,sm⟩
 ·obtain rfl:i1=a0.length:=ot
  rw[yi (Nat.le_refl _)]at hz1;subst hz1;dsimp only at hR
  refine AWP.exit ?_;refine yd ?_
  refine rS ?_
  refine AWP.ret ?_
  subst hR
  exact es
end N15
def D_zf : DF
 | [x0]=>some (ownL 90 20 ybb (zf (rdL yc x0)),false,[wL 20 eNotice yc x0,(rdL yc x0).length<1099511627776,∀ v∈(rdL yc x0),bdNotice v,(rdL yc x0).length≤1048576])
 | _=>none
theorem y4m:OkD Tryz.prog 15 D_zf:=by unfold D_zf;exact dk N15.den
end Go.Ab

namespace Go.Ab
open Go Go.Proofs
theorem yqu (a:List Notice):zf a=a:=by
 unfold zf
 rw[y4f (b:=yix a) (fun i=>zl (a.getD i default)) (by simp) (fun i s _=>rfl)]
 simp only[y3t]
 exact ydb a
end Go.Ab

namespace Go.Ab
open Go Go.Proofs
def zmf (a0:Sector) (a1:Sector):Bool:=
 (bif (a0.From != a1.From)then false else(bif (a0.To != a1.To)then false else(bif (a0.Color != a1.Color)then false else true)))
namespace N167
theorem DD:DOk Tryz.prog (Go.Ab.DD []):=ye _
theorem den (a0:Sector) (a1:Sector)  : Den Tryz.prog 167 [.agg (eSector a0),.agg (eSector a1)] (.bool (zmf a0 a1)):=by
 generalize hR:zmf a0 a1=r
 unfold zmf at hR
 refine di Tryz.func167 Tryz.ntmps167 Tryz.results167 ?_
 intro c hL hc hk
 obtain⟨hL0,hL1,_⟩:=hL
 have hw0:bwSector a0:=yr a0 hL0
 have hw1:bwSector a1:=yr a1 hL1
 clear hL0 hL1
 simp only[pars,Nat.zero_add]
 iterate 2 refine rS ?_
 refine AWP.cond rfl (fun hb => ?_) (fun hb => ?_)
 ·replace hR:=ct hR
  refine rS ?_
  refine AWP.ret ?_
  subst hR
  exact es
 ·replace hR:=cf hR
  refine rS ?_
  refine AWP.cond rfl (fun hb => ?_) (fun hb => ?_)
  ·replace hR:=ct hR
   refine rS ?_
   refine AWP.ret ?_
   subst hR
   exact es
  ·replace hR:=cf hR
   refine rS ?_
   refine AWP.cond rfl (fun hb => ?_) (fun hb => ?_)
   ·replace hR:=ct hR
    refine rS ?_
    refine AWP.ret ?_
    subst hR
    exact es
   ·replace hR:=cf hR
    refine rS ?_
    refine AWP.ret ?_
    subst hR
    exact es
end N167
def D_zmf : DF
 | [x0,x1]=>some (.bool (zmf (rdG yn x0) (rdG yn x1)),false,[wG eSector yn x0,wG eSector yn x1])
 | _=>none
theorem yxy:OkD Tryz.prog 167 D_zmf:=by unfold D_zmf;exact dk N167.den
end Go.Ab

namespace Go.Ab
open Go Go.Proofs
def ynl (a0:(List Sector)) (a1:(List Sector)) (i1:Nat) (s1:Unit):Except (Bool) (Unit):=
 (bif (!(zmf (a0.getD i1 default) (a1.getD i1 default)))then .error false else .ok ())
def zdd (a0:(List Sector)) (a1:(List Sector)):Bool:=
 (bif ((a0.length:Int) != (a1.length:Int))then false else(match yh (ynl a0 a1) (a0.length-0) 0 ()with|.error e=>e|.ok s1=>true))
namespace N100
theorem DD:DOk Tryz.prog (Go.Ab.DD [(167,dP D_zmf)]):=ya yxy.e <| ye _
theorem dn:type_of% (@D_zmf.eq_1):=by and_intros<;>intros<;>rfl
theorem den (a0:(List Sector)) (a1:(List Sector))  : Den Tryz.prog 100 [encL 3 eSector a0,encL 3 eSector a1] (.bool (zdd a0 a1)):=by
 generalize hR:zdd a0 a1=r
 unfold zdd at hR
 refine di Tryz.func100 Tryz.ntmps100 Tryz.results100 ?_
 intro c hL hc hk
 obtain⟨hL0,hL1,_⟩:=hL
 have hw0:a0.length<9223372036854775808:=Nat.lt_succ_of_le (yb hL0).1
 have hw1:∀ v∈a0,bwSector v:=fun v hv=>yr v ((yb hL0).2 v hv)
 have hw2:a1.length<9223372036854775808:=Nat.lt_succ_of_le (yb hL1).1
 have hw3:∀ v∈a1,bwSector v:=fun v hv=>yr v ((yb hL1).2 v hv)
 clear hL0 hL1
 simp only[pars,Nat.zero_add]
 iterate 2 refine rS ?_
 refine AWP.cond rfl (fun hb => ?_) (fun hb => ?_)
 ·replace hR:=ct hR
  refine rS ?_
  refine AWP.ret ?_
  subst hR
  exact es
 ·replace hR:=cf hR
  refine rS ?_
  refine AWP.block ?_
  generalize hz1:yh (ynl a0 a1) (a0.length-0) 0 ()=z1 at hR
  refine AWP.range (ynl a0 a1) (fun i1 s1=>⟨[(0,encL 3 eSector a0),(1,encL 3 eSector a1),(5,.int .i64 (i1:Int))],[]⟩) (fun i1 s1=>True) (a0.length) 0 () [] hz1 ot wt sm ?_
  clear hz1
  intro i1 s1 hi1 hW1 hz1
  refine rS ?_
  refine AWP.cond rfl (fun hb => ?_) (fun hb => ?_)
  ·have hlt1:i1<a0.length:=ot
   rw[yj hlt1]at hz1;simp only[ynl]at hz1
   refine rD 8 ?_
   refine AWP.cond rfl (fun hb => ?_) (fun hb => ?_)
   ·simp only[hb,cond_true]at hz1
    refine rS ?_
    refine AWP.ret ?_
    subst hz1
    dsimp only at hR
    subst hR
    exact es
   ·simp only[hb,cond_false]at hz1
    refine rS ?_
    exact⟨_,[],hlt1,wt,hz1,sm⟩
  ·obtain rfl:i1=a0.length:=ot
   rw[yi (Nat.le_refl _)]at hz1;subst hz1;dsimp only at hR
   refine AWP.exit ?_;refine yd ?_
   refine rS ?_
   refine AWP.ret ?_
   subst hR
   exact es
end N100
def D_zdd : DF
 | [x0,x1]=>some (.bool (zdd (rdL yn x0) (rdL yn x1)),false,[wL 3 eSector yn x0,wL 3 eSector yn x1])
 | _=>none
theorem yp1:OkD Tryz.prog 100 D_zdd:=by unfold D_zdd;exact dk N100.den
end Go.Ab

namespace Go.Ab
open Go Go.Proofs
def znf (a0:Point) (a1:Point):Bool:=
 (bif (a0.X != a1.X)then false else(bif (a0.Y != a1.Y)then false else true))
namespace N97
theorem DD:DOk Tryz.prog (Go.Ab.DD []):=ye _
theorem den (a0:Point) (a1:Point)  : Den Tryz.prog 97 [.agg (ePoint a0),.agg (ePoint a1)] (.bool (znf a0 a1)):=by
 generalize hR:znf a0 a1=r
 unfold znf at hR
 refine di Tryz.func97 Tryz.ntmps97 Tryz.results97 ?_
 intro c hL hc hk
 clear hL
 simp only[pars,Nat.zero_add]
 iterate 2 refine rS ?_
 refine AWP.cond rfl (fun hb => ?_) (fun hb => ?_)
 ·replace hR:=ct hR
  refine rS ?_
  refine AWP.ret ?_
  subst hR
  exact es
 ·replace hR:=cf hR
  refine rS ?_
  refine AWP.cond rfl (fun hb => ?_) (fun hb => ?_)
  ·replace hR:=ct hR
   refine rS ?_
   refine AWP.ret ?_
   subst hR
   exact es
  ·replace hR:=cf hR
   refine rS ?_
   refine AWP.ret ?_
   subst hR
   exact es
end N97
def D_znf : DF
 | [x0,x1]=>some (.bool (znf (rdG y6e x0) (rdG y6e x1)),false,[wG ePoint y6e x0,wG ePoint y6e x1])
 | _=>none
theorem ye0:OkD Tryz.prog 97 D_znf:=by unfold D_znf;exact dk N97.den
end Go.Ab

namespace Go.Ab
open Go Go.Proofs
def zof (a0:Mark) (a1:Mark):Bool:=
 (bif (a0.Kind != a1.Kind)then false else(bif (a0.Colors != a1.Colors)then false else(bif (a0.Shape != a1.Shape)then false else(bif (a0.Topmark != a1.Topmark)then false else true))))
namespace N98
theorem DD:DOk Tryz.prog (Go.Ab.DD []):=ye _
theorem den (a0:Mark) (a1:Mark)  : Den Tryz.prog 98 [.agg (eMark a0),.agg (eMark a1)] (.bool (zof a0 a1)):=by
 generalize hR:zof a0 a1=r
 unfold zof at hR
 refine di Tryz.func98 Tryz.ntmps98 Tryz.results98 ?_
 intro c hL hc hk
 obtain⟨hL0,hL1,_⟩:=hL
 have hw0:bwMark a0:=ysd a0 hL0
 have hw1:bwMark a1:=ysd a1 hL1
 clear hL0 hL1
 simp only[pars,Nat.zero_add]
 iterate 2 refine rS ?_
 refine AWP.cond rfl (fun hb => ?_) (fun hb => ?_)
 ·replace hR:=ct hR
  refine rS ?_
  refine AWP.ret ?_
  subst hR
  exact es
 ·replace hR:=cf hR
  refine rS ?_
  refine AWP.cond rfl (fun hb => ?_) (fun hb => ?_)
  ·replace hR:=ct hR
   refine rS ?_
   refine AWP.ret ?_
   subst hR
   exact es
  ·replace hR:=cf hR
   refine rS ?_
   refine AWP.cond rfl (fun hb => ?_) (fun hb => ?_)
   ·replace hR:=ct hR
    refine rS ?_
    refine AWP.ret ?_
    subst hR
    exact es
   ·replace hR:=cf hR
    refine rS ?_
    refine AWP.cond rfl (fun hb => ?_) (fun hb => ?_)
    ·replace hR:=ct hR
     refine rS ?_
     refine AWP.ret ?_
     subst hR
     exact es
    ·replace hR:=cf hR
     refine rS ?_
     refine AWP.ret ?_
     subst hR
     exact es
end N98
def D_zof : DF
 | [x0,x1]=>some (.bool (zof (rdG ymf x0) (rdG ymf x1)),false,[wG eMark ymf x0,wG eMark ymf x1])
 | _=>none
theorem ypx:OkD Tryz.prog 98 D_zof:=by unfold D_zof;exact dk N98.den
end Go.Ab

namespace Go.Ab
open Go Go.Proofs
def ytl (a0:(List Int)) (a1:(List Int)) (i1:Nat) (s1:Unit):Except (Bool) (Unit):=
 (bif ((a0.getD i1 default) != (a1.getD i1 default))then .error false else .ok ())
def zed (a0:(List Int)) (a1:(List Int)):Bool:=
 (bif ((a0.length:Int) != (a1.length:Int))then false else(match yh (ytl a0 a1) (a0.length-0) 0 ()with|.error e=>e|.ok s1=>true))
namespace N17
theorem DD:DOk Tryz.prog (Go.Ab.DD []):=ye _
theorem den (a0:(List Int)) (a1:(List Int))  : Den Tryz.prog 17 [encL 1 yp a0,encL 1 yp a1] (.bool (zed a0 a1)):=by
 generalize hR:zed a0 a1=r
 unfold zed at hR
 refine di Tryz.func17 Tryz.ntmps17 Tryz.results17 ?_
 intro c hL hc hk
 obtain⟨hL0,hL1,_⟩:=hL
 have hw0:a0.length<9223372036854775808:=Nat.lt_succ_of_le (yb hL0).1
 have hw1:a1.length<9223372036854775808:=Nat.lt_succ_of_le (yb hL1).1
 clear hL0 hL1
 simp only[pars,Nat.zero_add]
 iterate 2 refine rS ?_
 refine AWP.cond rfl (fun hb => ?_) (fun hb => ?_)
 ·replace hR:=ct hR
  refine rS ?_
  refine AWP.ret ?_
  subst hR
  exact es
 ·replace hR:=cf hR
  refine rS ?_
  refine AWP.block ?_
  generalize hz1:yh (ytl a0 a1) (a0.length-0) 0 ()=z1 at hR
  refine AWP.range (ytl a0 a1) (fun i1 s1=>⟨[(0,encL 1 yp a0),(1,encL 1 yp a1),(5,.int .i64 (i1:Int))],[]⟩) (fun i1 s1=>True) (a0.length) 0 () [] hz1 ot wt sm ?_
  clear hz1
  intro i1 s1 hi1 hW1 hz1
  refine rS ?_
  refine AWP.cond rfl (fun hb => ?_) (fun hb => ?_)
  ·have hlt1:i1<a0.length:=ot
   rw[yj hlt1]at hz1;simp only[ytl]at hz1
   refine rD 8 ?_
   refine AWP.cond rfl (fun hb => ?_) (fun hb => ?_)
   ·simp only[hb,cond_true]at hz1
    refine rS ?_
    refine AWP.ret ?_
    subst hz1
    dsimp only at hR
    subst hR
    exact es
   ·simp only[hb,cond_false]at hz1
    refine rS ?_
    exact⟨_,[],hlt1,wt,hz1,sm⟩
  ·obtain rfl:i1=a0.length:=ot
   rw[yi (Nat.le_refl _)]at hz1;subst hz1;dsimp only at hR
   refine AWP.exit ?_;refine yd ?_
   refine rS ?_
   refine AWP.ret ?_
   subst hR
   exact es
end N17
def D_zed : DF
 | [x0,x1]=>some (.bool (zed (rdL ylb x0) (rdL ylb x1)),false,[wL 1 yp ylb x0,wL 1 yp ylb x1])
 | _=>none
theorem ymx:OkD Tryz.prog 17 D_zed:=by unfold D_zed;exact dk N17.den
end Go.Ab

namespace Go.Ab
open Go Go.Proofs
def zpf (a0:Character) (a1:Character):Bool:=
 (bif (a0.Kind != a1.Kind)then false else(bif (!(zed a0.Group a1.Group))then false else(bif (a0.Letter != a1.Letter)then false else(bif (a0.Colors != a1.Colors)then false else(bif (a0.Period != a1.Period)then false else true)))))
namespace N99
theorem DD:DOk Tryz.prog (Go.Ab.DD [(17,dP D_zed)]):=ya ymx.e <| ye _
theorem dn:type_of% (@D_zed.eq_1):=by and_intros<;>intros<;>rfl
theorem den (a0:Character) (a1:Character)  : Den Tryz.prog 99 [.agg (eCharacter a0),.agg (eCharacter a1)] (.bool (zpf a0 a1)):=by
 generalize hR:zpf a0 a1=r
 unfold zpf at hR
 refine di Tryz.func99 Tryz.ntmps99 Tryz.results99 ?_
 intro c hL hc hk
 obtain⟨hL0,hL1,_⟩:=hL
 have hw0:bwCharacter a0:=yq a0 hL0
 have hw1:bwCharacter a1:=yq a1 hL1
 clear hL0 hL1
 simp only[pars,Nat.zero_add]
 iterate 2 refine rS ?_
 refine AWP.cond rfl (fun hb => ?_) (fun hb => ?_)
 ·replace hR:=ct hR
  refine rS ?_
  refine AWP.ret ?_
  subst hR
  exact es
 ·replace hR:=cf hR
  refine rS ?_
  refine AWP.cond rfl (fun hb => ?_) (fun hb => ?_)
  ·replace hR:=ct hR
   refine rS ?_
   refine AWP.ret ?_
   subst hR
   exact es
  ·replace hR:=cf hR
   refine rS ?_
   refine AWP.cond rfl (fun hb => ?_) (fun hb => ?_)
   ·replace hR:=ct hR
    refine rS ?_
    refine AWP.ret ?_
    subst hR
    exact es
   ·replace hR:=cf hR
    refine rS ?_
    refine AWP.cond rfl (fun hb => ?_) (fun hb => ?_)
    ·replace hR:=ct hR
     refine rS ?_
     refine AWP.ret ?_
     subst hR
     exact es
    ·replace hR:=cf hR
     refine rS ?_
     refine AWP.cond rfl (fun hb => ?_) (fun hb => ?_)
     ·replace hR:=ct hR
      refine rS ?_
      refine AWP.ret ?_
      subst hR
      exact es
     ·replace hR:=cf hR
      refine rS ?_
      refine AWP.ret ?_
      subst hR
      exact es
end N99
def D_zpf : DF
 | [x0,x1]=>some (.bool (zpf (rdG yf x0) (rdG yf x1)),false,[wG eCharacter yf x0,wG eCharacter yf x1])
 | _=>none
theorem yyx:OkD Tryz.prog 99 D_zpf:=by unfold D_zpf;exact dk N99.den
end Go.Ab

namespace Go.Ab
open Go Go.Proofs
def zwd (a0:Aid) (a1:Aid):Bool:=
 (bif (a0.Number != a1.Number)then false else(bif (a0.Name != a1.Name)then false else(bif (!(znf a0.At a1.At))then false else(bif (a0.Height != a1.Height)then false else(bif (!(zof a0.Mark a1.Mark))then false else(bif (!(zpf a0.Light a1.Light))then false else(bif (!(zdd a0.Sectors a1.Sectors))then false else(bif (a0.Intensity != a1.Intensity)then false else true))))))))
namespace N35
theorem DD:DOk Tryz.prog (Go.Ab.DD [(100,dP D_zdd),(97,dP D_znf),(98,dP D_zof),(99,dP D_zpf)]):=ya yp1.e <| ya ye0.e <| ya ypx.e <| ya yyx.e <| ye _
theorem dn:type_of% (And.intro @D_zdd.eq_1 <| And.intro @D_znf.eq_1 <| And.intro @D_zof.eq_1 <| @D_zpf.eq_1):=by and_intros<;>intros<;>rfl
theorem den (a0:Aid) (a1:Aid)  : Den Tryz.prog 35 [.agg (eAid a0),.agg (eAid a1)] (.bool (zwd a0 a1)):=by
 generalize hR:zwd a0 a1=r
 unfold zwd at hR
 refine di Tryz.func35 Tryz.ntmps35 Tryz.results35 ?_
 intro c hL hc hk
 obtain⟨hL0,hL1,_⟩:=hL
 have hw0:bwAid a0:=yt a0 hL0
 have hw1:bwAid a1:=yt a1 hL1
 clear hL0 hL1
 simp only[pars,Nat.zero_add]
 iterate 2 refine rS ?_
 refine AWP.cond rfl (fun hb => ?_) (fun hb => ?_)
 ·replace hR:=ct hR
  refine rS ?_
  refine AWP.ret ?_
  subst hR
  exact es
 ·replace hR:=cf hR
  refine rS ?_
  refine AWP.cond rfl (fun hb => ?_) (fun hb => ?_)
  ·replace hR:=ct hR
   refine rS ?_
   refine AWP.ret ?_
   subst hR
   exact es
  ·replace hR:=cf hR
   refine rS ?_
   refine AWP.cond rfl (fun hb => ?_) (fun hb => ?_)
   ·replace hR:=ct hR
    refine rS ?_
    refine AWP.ret ?_
    subst hR
    exact es
   ·replace hR:=cf hR
    refine rS ?_
    refine AWP.cond rfl (fun hb => ?_) (fun hb => ?_)
    ·replace hR:=ct hR
     refine rS ?_
     refine AWP.ret ?_
     subst hR
     exact es
    ·replace hR:=cf hR
     refine rS ?_
     refine AWP.cond rfl (fun hb => ?_) (fun hb => ?_)
     ·replace hR:=ct hR
      refine rS ?_
      refine AWP.ret ?_
      subst hR
      exact es
     ·replace hR:=cf hR
      refine rS ?_
      refine AWP.cond rfl (fun hb => ?_) (fun hb => ?_)
      ·replace hR:=ct hR
       refine rS ?_
       refine AWP.ret ?_
       subst hR
       exact es
      ·replace hR:=cf hR
       refine rS ?_
       refine AWP.cond rfl (fun hb => ?_) (fun hb => ?_)
       ·replace hR:=ct hR
        refine rS ?_
        refine AWP.ret ?_
        subst hR
        exact es
       ·replace hR:=cf hR
        refine rS ?_
        refine AWP.cond rfl (fun hb => ?_) (fun hb => ?_)
        ·replace hR:=ct hR
         refine rS ?_
         refine AWP.ret ?_
         subst hR
         exact es
        ·replace hR:=cf hR
         refine rS ?_
         refine AWP.ret ?_
         subst hR
         exact es
end N35
def D_zwd : DF
 | [x0,x1]=>some (.bool (zwd (rdG dAid x0) (rdG dAid x1)),false,[wG eAid dAid x0,wG eAid dAid x1])
 | _=>none
theorem y7s:OkD Tryz.prog 35 D_zwd:=by unfold D_zwd;exact dk N35.den
end Go.Ab

namespace Go.Ab
open Go Go.Proofs
def zzc (a0:Notice) (a1:Notice):Bool:=
 (bif (a0.Number != a1.Number)then false else(bif (a0.Day != a1.Day)then false else(bif (a0.Kind != a1.Kind)then false else(bif (a0.Target != a1.Target)then false else(bif (!(zwd a0.Aid a1.Aid))then false else true)))))
namespace N54
theorem DD:DOk Tryz.prog (Go.Ab.DD [(35,dP D_zwd)]):=ya y7s.e <| ye _
theorem dn:type_of% (@D_zwd.eq_1):=by and_intros<;>intros<;>rfl
theorem den (a0:Notice) (a1:Notice)  : Den Tryz.prog 54 [.agg (eNotice a0),.agg (eNotice a1)] (.bool (zzc a0 a1)):=by
 generalize hR:zzc a0 a1=r
 unfold zzc at hR
 refine di Tryz.func54 Tryz.ntmps54 Tryz.results54 ?_
 intro c hL hc hk
 obtain⟨hL0,hL1,_⟩:=hL
 have hw0:bwNotice a0:=yg a0 hL0
 have hw1:bwNotice a1:=yg a1 hL1
 clear hL0 hL1
 simp only[pars,Nat.zero_add]
 iterate 2 refine rS ?_
 refine AWP.cond rfl (fun hb => ?_) (fun hb => ?_)
 ·replace hR:=ct hR
  refine rS ?_
  refine AWP.ret ?_
  subst hR
  exact es
 ·replace hR:=cf hR
  refine rS ?_
  refine AWP.cond rfl (fun hb => ?_) (fun hb => ?_)
  ·replace hR:=ct hR
   refine rS ?_
   refine AWP.ret ?_
   subst hR
   exact es
  ·replace hR:=cf hR
   refine rS ?_
   refine AWP.cond rfl (fun hb => ?_) (fun hb => ?_)
   ·replace hR:=ct hR
    refine rS ?_
    refine AWP.ret ?_
    subst hR
    exact es
   ·replace hR:=cf hR
    refine rS ?_
    refine AWP.cond rfl (fun hb => ?_) (fun hb => ?_)
    ·replace hR:=ct hR
     refine rS ?_
     refine AWP.ret ?_
     subst hR
     exact es
    ·replace hR:=cf hR
     refine rS ?_
     refine AWP.cond rfl (fun hb => ?_) (fun hb => ?_)
     ·replace hR:=ct hR
      refine rS ?_
      refine AWP.ret ?_
      subst hR
      exact es
     ·replace hR:=cf hR
      refine rS ?_
      refine AWP.ret ?_
      subst hR
      exact es
end N54
def D_zzc : DF
 | [x0,x1]=>some (.bool (zzc (rdG yc x0) (rdG yc x1)),false,[wG eNotice yc x0,wG eNotice yc x1])
 | _=>none
theorem yon:OkD Tryz.prog 54 D_zzc:=by unfold D_zzc;exact dk N54.den
end Go.Ab

namespace Go.Ab
open Go Go.Proofs
def y5t (a0:(List Notice)) (a1:(List Notice)) (i1:Nat) (s1:Unit):Except (Bool) (Unit):=
 (bif (!(zzc (a0.getD i1 default) (a1.getD i1 default)))then .error false else .ok ())
def zw (a0:(List Notice)) (a1:(List Notice)):Bool:=
 (bif ((a0.length:Int) != (a1.length:Int))then false else(match yh (y5t a0 a1) (a0.length-0) 0 ()with|.error e=>e|.ok s1=>true))
namespace N18
theorem DD:DOk Tryz.prog (Go.Ab.DD [(54,dP D_zzc)]):=ya yon.e <| ye _
theorem dn:type_of% (@D_zzc.eq_1):=by and_intros<;>intros<;>rfl
theorem den (a0:(List Notice)) (a1:(List Notice))  : Den Tryz.prog 18 [encL 20 eNotice a0,encL 20 eNotice a1] (.bool (zw a0 a1)):=by
 generalize hR:zw a0 a1=r
 unfold zw at hR
 refine di Tryz.func18 Tryz.ntmps18 Tryz.results18 ?_
 intro c hL hc hk
 obtain⟨hL0,hL1,_⟩:=hL
 have hw0:a0.length<9223372036854775808:=Nat.lt_succ_of_le (yb hL0).1
 have hw1:∀ v∈a0,bwNotice v:=fun v hv=>yg v ((yb hL0).2 v hv)
 have hw2:a1.length<9223372036854775808:=Nat.lt_succ_of_le (yb hL1).1
 have hw3:∀ v∈a1,bwNotice v:=fun v hv=>yg v ((yb hL1).2 v hv)
 clear hL0 hL1
 simp only[pars,Nat.zero_add]
 iterate 2 refine rS ?_
 refine AWP.cond rfl (fun hb => ?_) (fun hb => ?_)
 ·replace hR:=ct hR
  refine rS ?_
  refine AWP.ret ?_
  subst hR
  exact es
 ·replace hR:=cf hR
  refine rS ?_
  refine AWP.block ?_
  generalize hz1:yh (y5t a0 a1) (a0.length-0) 0 ()=z1 at hR
  refine AWP.range (y5t a0 a1) (fun i1 s1=>⟨[(0,encL 20 eNotice a0),(1,encL 20 eNotice a1),(5,.int .i64 (i1:Int))],[]⟩) (fun i1 s1=>True) (a0.length) 0 () [] hz1 ot wt sm ?_
  clear hz1
  intro i1 s1 hi1 hW1 hz1
  refine rS ?_
  refine AWP.cond rfl (fun hb => ?_) (fun hb => ?_)
  ·have hlt1:i1<a0.length:=ot
   rw[yj hlt1]at hz1;simp only[y5t]at hz1
   refine rD 8 ?_
   refine AWP.cond rfl (fun hb => ?_) (fun hb => ?_)
   ·simp only[hb,cond_true]at hz1
    refine rS ?_
    refine AWP.ret ?_
    subst hz1
    dsimp only at hR
    subst hR
    exact es
   ·simp only[hb,cond_false]at hz1
    refine rS ?_
    exact⟨_,[],hlt1,wt,hz1,sm⟩
  ·obtain rfl:i1=a0.length:=ot
   rw[yi (Nat.le_refl _)]at hz1;subst hz1;dsimp only at hR
   refine AWP.exit ?_;refine yd ?_
   refine rS ?_
   refine AWP.ret ?_
   subst hR
   exact es
end N18
def D_zw : DF
 | [x0,x1]=>some (.bool (zw (rdL yc x0) (rdL yc x1)),false,[wL 20 eNotice yc x0,wL 20 eNotice yc x1])
 | _=>none
theorem ykn:OkD Tryz.prog 18 D_zw:=by unfold D_zw;exact dk N18.den
end Go.Ab

namespace Go.Ab
open Go Go.Proofs
theorem yv2 (a b:Point):znf a b=decide (a=b):=by
 unfold znf
 skip
 by_cases h:a=b
 ·subst h;simp
 ·rw[decide_eq_false h]
  cases a;cases b
  simp only[Point.mk.injEq]at h
  simp only[bne_iff_ne,Bool.cond_eq_ite,ite_eq_right_iff]
  (repeat' split)<;>simp_all
end Go.Ab

namespace Go.Ab
open Go Go.Proofs
theorem y82 (a b:Mark):zof a b=decide (a=b):=by
 unfold zof
 skip
 by_cases h:a=b
 ·subst h;simp
 ·rw[decide_eq_false h]
  cases a;cases b
  simp only[Mark.mk.injEq]at h
  simp only[bne_iff_ne,Bool.cond_eq_ite,ite_eq_right_iff]
  (repeat' split)<;>simp_all
end Go.Ab

namespace Go.Ab
open Go Go.Proofs
theorem yx2 (a b:List Int):zed a b=decide (a=b):=by
 unfold zed
 by_cases hl:a.length=b.length
 ·have h1:((a.length:Int) != (b.length:Int))=false:=by simp[hl]
  rw[h1,cond_false,ykc (b:=ytl a b) (fun j => !decide (a.getD j default=b.getD j default)) false (fun j u _ _=>by simp only[ytl,ned])]
  simp only[Nat.sub_zero,Nat.zero_add]
  rw[ycl a b hl]
  by_cases h:a=b<;>simp[h]
 ·have h1:((a.length:Int) != (b.length:Int))=true:=by simp;omega
  have h2:¬ a=b:=fun e=>hl (by rw[e])
  rw[h1,cond_true,decide_eq_false h2]
end Go.Ab

namespace Go.Ab
open Go Go.Proofs
theorem y32 (a b:Character):zpf a b=decide (a=b):=by
 unfold zpf
 simp only[yx2]
 by_cases h:a=b
 ·subst h;simp
 ·rw[decide_eq_false h]
  cases a;cases b
  simp only[Character.mk.injEq]at h
  simp only[bne_iff_ne,Bool.cond_eq_ite,ite_eq_right_iff]
  (repeat' split)<;>simp_all
end Go.Ab

namespace Go.Ab
open Go Go.Proofs
theorem ys2 (a b:Sector):zmf a b=decide (a=b):=by
 unfold zmf
 skip
 by_cases h:a=b
 ·subst h;simp
 ·rw[decide_eq_false h]
  cases a;cases b
  simp only[Sector.mk.injEq]at h
  simp only[bne_iff_ne,Bool.cond_eq_ite,ite_eq_right_iff]
  (repeat' split)<;>simp_all
end Go.Ab

namespace Go.Ab
open Go Go.Proofs
theorem yg3 (a b:List Sector):zdd a b=decide (a=b):=by
 unfold zdd
 by_cases hl:a.length=b.length
 ·have h1:((a.length:Int) != (b.length:Int))=false:=by simp[hl]
  rw[h1,cond_false,ykc (b:=ynl a b) (fun j => !decide (a.getD j default=b.getD j default)) false (fun j u _ _=>by simp only[ynl,ys2])]
  simp only[Nat.sub_zero,Nat.zero_add]
  rw[ycl a b hl]
  by_cases h:a=b<;>simp[h]
 ·have h1:((a.length:Int) != (b.length:Int))=true:=by simp;omega
  have h2:¬ a=b:=fun e=>hl (by rw[e])
  rw[h1,cond_true,decide_eq_false h2]
end Go.Ab

namespace Go.Ab
open Go Go.Proofs
theorem ydx (a b:Aid):zwd a b=decide (a=b):=by
 unfold zwd
 simp only[yv2,y82,y32,yg3]
 by_cases h:a=b
 ·subst h;simp
 ·rw[decide_eq_false h]
  cases a;cases b
  simp only[Aid.mk.injEq]at h
  simp only[bne_iff_ne,Bool.cond_eq_ite,ite_eq_right_iff]
  (repeat' split)<;>simp_all
end Go.Ab

namespace Go.Ab
open Go Go.Proofs
theorem ymw (a b:Notice):zzc a b=decide (a=b):=by
 unfold zzc
 simp only[ydx]
 by_cases h:a=b
 ·subst h;simp
 ·rw[decide_eq_false h]
  cases a;cases b
  simp only[Notice.mk.injEq]at h
  simp only[bne_iff_ne,Bool.cond_eq_ite,ite_eq_right_iff]
  (repeat' split)<;>simp_all
end Go.Ab

namespace Go.Ab
open Go Go.Proofs
theorem yx1 (a b:List Notice):zw a b=decide (a=b):=by
 unfold zw
 by_cases hl:a.length=b.length
 ·have h1:((a.length:Int) != (b.length:Int))=false:=by simp[hl]
  rw[h1,cond_false,ykc (b:=y5t a b) (fun j => !decide (a.getD j default=b.getD j default)) false (fun j u _ _=>by simp only[y5t,ymw])]
  simp only[Nat.sub_zero,Nat.zero_add]
  rw[ycl a b hl]
  by_cases h:a=b<;>simp[h]
 ·have h1:((a.length:Int) != (b.length:Int))=true:=by simp;omega
  have h2:¬ a=b:=fun e=>hl (by rw[e])
  rw[h1,cond_true,decide_eq_false h2]
end Go.Ab

namespace Go.Ab
open Go Go.Proofs
def znc (a0:Mark) (a1:Int):Int:=
 (bif decide ((IntKind.wrap .i64 (a1-(a0.Colors.length:Int)))<0)then(-1)else(bif decide ((IntKind.wrap .i64 ((IntKind.wrap .i64 (a1-(a0.Colors.length:Int)))-(a0.Shape.length:Int)))<0)then(-1)else(bif decide ((IntKind.wrap .i64 ((IntKind.wrap .i64 ((IntKind.wrap .i64 (a1-(a0.Colors.length:Int)))-(a0.Shape.length:Int)))-(a0.Topmark.length:Int)))<0)then(-1)else IntKind.wrap .i64 ((IntKind.wrap .i64 ((IntKind.wrap .i64 (a1-(a0.Colors.length:Int)))-(a0.Shape.length:Int)))-(a0.Topmark.length:Int)))))
namespace N84
theorem DD:DOk Tryz.prog (Go.Ab.DD []):=ye _
theorem den (a0:Mark) (a1:Int)  : Den Tryz.prog 84 [.agg (eMark a0),.int .i64 a1] (.int .i64 (znc a0 a1)):=by
 generalize hR:znc a0 a1=r
 unfold znc at hR
 refine di Tryz.func84 Tryz.ntmps84 Tryz.results84 ?_
 intro c hL hc hk
 obtain⟨hL0,hL1,_⟩:=hL
 have hw0:bwMark a0:=ysd a0 hL0
 clear hL0 hL1
 simp only[pars,Nat.zero_add]
 iterate 3 refine rS ?_
 refine AWP.cond rfl (fun hb => ?_) (fun hb => ?_)
 ·replace hR:=ct hR
  refine rS ?_
  refine AWP.ret ?_
  subst hR
  exact es
 ·replace hR:=cf hR
  iterate 2 refine rS ?_
  refine AWP.cond rfl (fun hb => ?_) (fun hb => ?_)
  ·replace hR:=ct hR
   refine rS ?_
   refine AWP.ret ?_
   subst hR
   exact es
  ·replace hR:=cf hR
   iterate 2 refine rS ?_
   refine AWP.cond rfl (fun hb => ?_) (fun hb => ?_)
   ·replace hR:=ct hR
    refine rS ?_
    refine AWP.ret ?_
    subst hR
    exact es
   ·replace hR:=cf hR
    refine rS ?_
    refine AWP.ret ?_
    subst hR
    exact es
end N84
def D_znc : DF
 | [x0,x1]=>some (.int .i64 (znc (rdG ymf x0) (rdI x1)),false,[wG eMark ymf x0,wI .i64 x1])
 | _=>none
theorem ycz:OkD Tryz.prog 84 D_znc:=by unfold D_znc;exact dk N84.den
end Go.Ab

namespace Go.Ab
open Go Go.Proofs
def zxb (a0:(List Int)) (a1:Int):Int:=
 (bif decide ((IntKind.wrap .i64 (a1-(a0.length:Int)))<0)then(-1)else IntKind.wrap .i64 (a1-(a0.length:Int)))
namespace N146
theorem DD:DOk Tryz.prog (Go.Ab.DD []):=ye _
theorem den (a0:(List Int)) (a1:Int)  : Den Tryz.prog 146 [encL 1 yp a0,.int .i64 a1] (.int .i64 (zxb a0 a1)):=by
 generalize hR:zxb a0 a1=r
 unfold zxb at hR
 refine di Tryz.func146 Tryz.ntmps146 Tryz.results146 ?_
 intro c hL hc hk
 obtain⟨hL0,hL1,_⟩:=hL
 have hw0:a0.length<9223372036854775808:=Nat.lt_succ_of_le (yb hL0).1
 clear hL0 hL1
 simp only[pars,Nat.zero_add]
 iterate 3 refine rS ?_
 refine AWP.cond rfl (fun hb => ?_) (fun hb => ?_)
 ·replace hR:=ct hR
  refine rS ?_
  refine AWP.ret ?_
  subst hR
  exact es
 ·replace hR:=cf hR
  refine rS ?_
  refine AWP.ret ?_
  subst hR
  exact es
end N146
def D_zxb : DF
 | [x0,x1]=>some (.int .i64 (zxb (rdL ylb x0) (rdI x1)),false,[wL 1 yp ylb x0,wI .i64 x1])
 | _=>none
theorem ys1:OkD Tryz.prog 146 D_zxb:=by unfold D_zxb;exact dk N146.den
end Go.Ab

namespace Go.Ab
open Go Go.Proofs
theorem y4v (a:List Int) (n:Int) (h0 : -1≤n) (h1:n≤1048576) (hl:a.length<9223372036854775808) :
  -1≤zxb a n∧zxb a n≤n∧(¬ zxb a n<0→a.length≤1048576):=by
 unfold zxb
 rw[show IntKind.wrap .i64 (n-(a.length:Int))=n-a.length from by rw[IntKind.wrap_i64];omega]
 by_cases c:n-(a.length:Int)<0
 ·rw[decide_eq_true c];exact⟨by simp,by simpa using h0,fun h=>absurd (by simp) h⟩
 ·rw[decide_eq_false c];simp only[cond_false];omega
end Go.Ab

namespace Go.Ab
open Go Go.Proofs
def zfd (a0:Character) (a1:Int):Int:=
 (bif decide ((zxb a0.Group a1)<0)then(-1)else(bif decide ((IntKind.wrap .i64 ((zxb a0.Group a1)-(a0.Letter.length:Int)))<0)then(-1)else(bif decide ((IntKind.wrap .i64 ((IntKind.wrap .i64 ((zxb a0.Group a1)-(a0.Letter.length:Int)))-(a0.Colors.length:Int)))<0)then(-1)else IntKind.wrap .i64 ((IntKind.wrap .i64 ((zxb a0.Group a1)-(a0.Letter.length:Int)))-(a0.Colors.length:Int)))))
namespace N85
theorem DD:DOk Tryz.prog (Go.Ab.DD [(146,dP D_zxb)]):=ya ys1.e <| ye _
theorem dn:type_of% (@D_zxb.eq_1):=by and_intros<;>intros<;>rfl
theorem den (a0:Character) (a1:Int)  : Den Tryz.prog 85 [.agg (eCharacter a0),.int .i64 a1] (.int .i64 (zfd a0 a1)):=by
 generalize hR:zfd a0 a1=r
 unfold zfd at hR
 refine di Tryz.func85 Tryz.ntmps85 Tryz.results85 ?_
 intro c hL hc hk
 obtain⟨hL0,hL1,_⟩:=hL
 have hw0:bwCharacter a0:=yq a0 hL0
 clear hL0 hL1
 simp only[pars,Nat.zero_add]
 iterate 3 refine rS ?_
 refine AWP.cond rfl (fun hb => ?_) (fun hb => ?_)
 ·replace hR:=ct hR
  refine rS ?_
  refine AWP.ret ?_
  subst hR
  exact es
 ·replace hR:=cf hR
  iterate 2 refine rS ?_
  refine AWP.cond rfl (fun hb => ?_) (fun hb => ?_)
  ·replace hR:=ct hR
   refine rS ?_
   refine AWP.ret ?_
   subst hR
   exact es
  ·replace hR:=cf hR
   iterate 2 refine rS ?_
   refine AWP.cond rfl (fun hb => ?_) (fun hb => ?_)
   ·replace hR:=ct hR
    refine rS ?_
    refine AWP.ret ?_
    subst hR
    exact es
   ·replace hR:=cf hR
    refine rS ?_
    refine AWP.ret ?_
    subst hR
    exact es
end N85
def D_zfd : DF
 | [x0,x1]=>some (.int .i64 (zfd (rdG yf x0) (rdI x1)),false,[wG eCharacter yf x0,wI .i64 x1])
 | _=>none
theorem yg1:OkD Tryz.prog 85 D_zfd:=by unfold D_zfd;exact dk N85.den
end Go.Ab

namespace Go.Ab
open Go Go.Proofs
def zxd (a0:Sector) (a1:Int):Int:=
 (bif decide ((IntKind.wrap .i64 (a1-(a0.Color.length:Int)))<0)then(-1)else IntKind.wrap .i64 (a1-(a0.Color.length:Int)))
namespace N147
theorem DD:DOk Tryz.prog (Go.Ab.DD []):=ye _
theorem den (a0:Sector) (a1:Int)  : Den Tryz.prog 147 [.agg (eSector a0),.int .i64 a1] (.int .i64 (zxd a0 a1)):=by
 generalize hR:zxd a0 a1=r
 unfold zxd at hR
 refine di Tryz.func147 Tryz.ntmps147 Tryz.results147 ?_
 intro c hL hc hk
 obtain⟨hL0,hL1,_⟩:=hL
 have hw0:bwSector a0:=yr a0 hL0
 clear hL0 hL1
 simp only[pars,Nat.zero_add]
 iterate 3 refine rS ?_
 refine AWP.cond rfl (fun hb => ?_) (fun hb => ?_)
 ·replace hR:=ct hR
  refine rS ?_
  refine AWP.ret ?_
  subst hR
  exact es
 ·replace hR:=cf hR
  refine rS ?_
  refine AWP.ret ?_
  subst hR
  exact es
end N147
def D_zxd : DF
 | [x0,x1]=>some (.int .i64 (zxd (rdG yn x0) (rdI x1)),false,[wG eSector yn x0,wI .i64 x1])
 | _=>none
theorem yqz:OkD Tryz.prog 147 D_zxd:=by unfold D_zxd;exact dk N147.den
end Go.Ab

namespace Go.Ab
open Go Go.Proofs
theorem ydv (x:Sector) (n:Int) (h0 : -1≤n) (h1:n≤1048576) (hx:bwSector x) : -1≤zxd x n∧zxd x n≤n∧(¬ zxd x n<0→yhh x):=by
 have b0:=hx
 unfold zxd
 have b0':x.Color.length<9223372036854775808:=b0
 rw[show IntKind.wrap .i64 (n-(x.Color.length:Int))=n-(x.Color.length:Int)from by rw[IntKind.wrap_i64];omega]
 by_cases c0:n-(x.Color.length:Int)<0
 ·rw[decide_eq_true c0];exact⟨by simp,by simpa using h0,fun h=>absurd (by simp) h⟩
 rw[decide_eq_false c0]
 simp only[cond_false]
 exact⟨by omega,by omega,fun _=>(show x.Color.length≤1048576 by omega)⟩
end Go.Ab

namespace Go.Ab
open Go Go.Proofs
def yaj (a0:(List Sector)) (a1:Int) (i1:Nat) (s1:Int):Except (Int) (Int):=
 (bif decide ((zxd (a0.getD i1 default) s1)<0)then .error (-1)else .ok (zxd (a0.getD i1 default) s1))
def zyb (a0:(List Sector)) (a1:Int):Int:=
 (bif decide ((IntKind.wrap .i64 (a1-(a0.length:Int)))<0)then(-1)else(match yh (yaj a0 a1) (a0.length-0) 0 (IntKind.wrap .i64 (a1-(a0.length:Int)))with|.error e=>e|.ok s1=>s1))
namespace N86
theorem DD:DOk Tryz.prog (Go.Ab.DD [(147,dP D_zxd)]):=ya yqz.e <| ye _
theorem dn:type_of% (@D_zxd.eq_1):=by and_intros<;>intros<;>rfl
theorem den (a0:(List Sector)) (a1:Int)  : Den Tryz.prog 86 [encL 3 eSector a0,.int .i64 a1] (.int .i64 (zyb a0 a1)):=by
 generalize hR:zyb a0 a1=r
 unfold zyb at hR
 refine di Tryz.func86 Tryz.ntmps86 Tryz.results86 ?_
 intro c hL hc hk
 obtain⟨hL0,hL1,_⟩:=hL
 have hw0:a0.length<9223372036854775808:=Nat.lt_succ_of_le (yb hL0).1
 have hw1:∀ v∈a0,bwSector v:=fun v hv=>yr v ((yb hL0).2 v hv)
 clear hL0 hL1
 simp only[pars,Nat.zero_add]
 iterate 3 refine rS ?_
 refine AWP.cond rfl (fun hb => ?_) (fun hb => ?_)
 ·replace hR:=ct hR
  refine rS ?_
  refine AWP.ret ?_
  subst hR
  exact es
 ·replace hR:=cf hR
  refine rS ?_
  refine AWP.block ?_
  generalize hz1:yh (yaj a0 a1) (a0.length-0) 0 (IntKind.wrap .i64 (a1-(a0.length:Int)))=z1 at hR
  refine AWP.range (yaj a0 a1) (fun i1 s1=>⟨[(0,encL 3 eSector a0),(1,.int .i64 s1),(5,.int .i64 (i1:Int))],[]⟩) (fun i1 s1=>True) (a0.length) 0 (IntKind.wrap .i64 (a1-(a0.length:Int))) [] hz1 ot wt sm ?_
  clear hz1
  intro i1 s1 hi1 hW1 hz1
  refine rS ?_
  refine AWP.cond rfl (fun hb => ?_) (fun hb => ?_)
  ·have hlt1:i1<a0.length:=ot
   rw[yj hlt1]at hz1;simp only[yaj]at hz1
   iterate 2 refine rS ?_
   refine AWP.cond rfl (fun hb => ?_) (fun hb => ?_)
   ·simp only[hb,cond_true]at hz1
    refine rS ?_
    refine AWP.ret ?_
    subst hz1
    dsimp only at hR
    subst hR
    exact es
   ·simp only[hb,cond_false]at hz1
    refine rS ?_
    exact⟨_,[],hlt1,wt,hz1,sm⟩
  ·obtain rfl:i1=a0.length:=ot
   rw[yi (Nat.le_refl _)]at hz1;subst hz1;dsimp only at hR
   refine AWP.exit ?_;refine yd ?_
   refine rS ?_
   refine AWP.ret ?_
   subst hR
   exact es
end N86
def D_zyb : DF
 | [x0,x1]=>some (.int .i64 (zyb (rdL yn x0) (rdI x1)),false,[wL 3 eSector yn x0,wI .i64 x1])
 | _=>none
theorem y0z:OkD Tryz.prog 86 D_zyb:=by unfold D_zyb;exact dk N86.den
end Go.Ab

namespace Go.Ab
open Go Go.Proofs
theorem yrv (x:Mark) (n:Int) (h0 : -1≤n) (h1:n≤1048576) (hx:bwMark x) : -1≤znc x n∧znc x n≤n∧(¬ znc x n<0→y9w x):=by
 obtain⟨b0,b1,b2⟩:=hx
 unfold znc
 have b0':x.Colors.length<9223372036854775808:=b0
 rw[show IntKind.wrap .i64 (n-(x.Colors.length:Int))=n-(x.Colors.length:Int)from by rw[IntKind.wrap_i64];omega]
 by_cases c0:n-(x.Colors.length:Int)<0
 ·rw[decide_eq_true c0];exact⟨by simp,by simpa using h0,fun h=>absurd (by simp) h⟩
 rw[decide_eq_false c0]
 simp only[cond_false]
 have b1':x.Shape.length<9223372036854775808:=b1
 rw[show IntKind.wrap .i64 (n-(x.Colors.length:Int)-(x.Shape.length:Int))=n-(x.Colors.length:Int)-(x.Shape.length:Int)from by rw[IntKind.wrap_i64];omega]
 by_cases c1:n-(x.Colors.length:Int)-(x.Shape.length:Int)<0
 ·rw[decide_eq_true c1];exact⟨by simp,by simpa using h0,fun h=>absurd (by simp) h⟩
 rw[decide_eq_false c1]
 simp only[cond_false]
 have b2':x.Topmark.length<9223372036854775808:=b2
 rw[show IntKind.wrap .i64 (n-(x.Colors.length:Int)-(x.Shape.length:Int)-(x.Topmark.length:Int))=n-(x.Colors.length:Int)-(x.Shape.length:Int)-(x.Topmark.length:Int)from by rw[IntKind.wrap_i64];omega]
 by_cases c2:n-(x.Colors.length:Int)-(x.Shape.length:Int)-(x.Topmark.length:Int)<0
 ·rw[decide_eq_true c2];exact⟨by simp,by simpa using h0,fun h=>absurd (by simp) h⟩
 rw[decide_eq_false c2]
 simp only[cond_false]
 exact⟨by omega,by omega,fun _=>⟨by omega,by omega,by omega⟩⟩
end Go.Ab

namespace Go.Ab
open Go Go.Proofs
theorem y7v (x:Character) (n:Int) (h0 : -1≤n) (h1:n≤1048576) (hx:bwCharacter x) : -1≤zfd x n∧zfd x n≤n∧(¬ zfd x n<0→ytg x):=by
 obtain⟨b0,b1,b2⟩:=hx
 unfold zfd
 have f0:=y4v x.Group (n) (by omega) (by omega) b0
 by_cases c0:zxb x.Group (n)<0
 ·rw[decide_eq_true c0];exact⟨by simp,by simpa using h0,fun h=>absurd (by simp) h⟩
 rw[decide_eq_false c0]
 simp only[cond_false]
 have b1':x.Letter.length<9223372036854775808:=b1
 rw[show IntKind.wrap .i64 (zxb x.Group (n)-(x.Letter.length:Int))=zxb x.Group (n)-(x.Letter.length:Int)from by rw[IntKind.wrap_i64];omega]
 by_cases c1:zxb x.Group (n)-(x.Letter.length:Int)<0
 ·rw[decide_eq_true c1];exact⟨by simp,by simpa using h0,fun h=>absurd (by simp) h⟩
 rw[decide_eq_false c1]
 simp only[cond_false]
 have b2':x.Colors.length<9223372036854775808:=b2
 rw[show IntKind.wrap .i64 (zxb x.Group (n)-(x.Letter.length:Int)-(x.Colors.length:Int))=zxb x.Group (n)-(x.Letter.length:Int)-(x.Colors.length:Int)from by rw[IntKind.wrap_i64];omega]
 by_cases c2:zxb x.Group (n)-(x.Letter.length:Int)-(x.Colors.length:Int)<0
 ·rw[decide_eq_true c2];exact⟨by simp,by simpa using h0,fun h=>absurd (by simp) h⟩
 rw[decide_eq_false c2]
 simp only[cond_false]
 exact⟨by omega,by omega,fun _=>⟨f0.2.2 c0,by omega,by omega⟩⟩
end Go.Ab

namespace Go.Ab
open Go Go.Proofs
theorem yiv (a:List Sector) (n:Int) (h0 : -1≤n) (h1:n≤1048576) (hl:a.length<9223372036854775808) (hx:∀ v∈a,bwSector v) :
  -1≤zyb a n∧zyb a n≤n∧(¬ zyb a n<0→a.length≤1048576∧∀ v∈a,yhh v):=by
 unfold zyb
 rw[show IntKind.wrap .i64 (n-(a.length:Int))=n-a.length from by rw[IntKind.wrap_i64];omega]
 by_cases c:n-(a.length:Int)<0
 ·rw[decide_eq_true c];exact⟨by simp,by simpa using h0,fun h=>absurd (by simp) h⟩
 ·rw[decide_eq_false c]
  simp only[cond_false]
  split
  ·rename_i e h
   obtain⟨j,t,_,_,h3⟩:=yfc h
   simp only[yaj]at h3
   have:e = -1:=by
    cases hq:decide (zxd (a.getD j default) t<0)with
    | true=>rw[hq]at h3;simpa using h3.symm
    | false=>rw[hq]at h3;simp at h3
   omega
  ·rename_i s h
   have:=y5g (b:=yaj a n) (fun i s => -1≤s∧s≤n-a.length∧∀ j,j<i→yhh (a.getD j default)) ⟨by omega,by omega,by intro j hj;omega⟩ (by
    intro j u v h1 h2 ⟨h3,h4,h5⟩ h6
    simp only[yaj]at h6
    have hb:bwSector (a.getD j default):=yfd hx (by decide) j
    have hf:=ydv (a.getD j default) u h3 (by omega) hb
    cases hq:decide (zxd (a.getD j default) u<0)with
    | true=>rw[hq]at h6;simp at h6
    | false=>
     rw[hq]at h6
     simp only[cond_false,Except.ok.injEq]at h6
     subst h6
     refine⟨by omega,by omega,fun q hq2 => ?_⟩
     by_cases hqj:q=j
     ·subst hqj;exact hf.2.2 (of_decide_eq_false hq)
     ·exact h5 q (by omega)) h
   refine⟨by omega,by omega,fun _=>⟨by omega,fun v hv => ?_⟩⟩
   obtain⟨i,hi,rfl⟩:=List.getElem_of_mem hv
   have:=this.2.2 i (by omega)
   simpa [List.getD_eq_getElem?_getD,hi]using this
end Go.Ab

namespace Go.Ab
open Go Go.Proofs
def zzb (a0:Aid) (a1:Int):Int:=
 (bif decide ((IntKind.wrap .i64 (a1-(a0.Name.length:Int)))<0)then(-1)else(bif decide ((znc a0.Mark (IntKind.wrap .i64 (a1-(a0.Name.length:Int))))<0)then(-1)else(bif decide ((zfd a0.Light (znc a0.Mark (IntKind.wrap .i64 (a1-(a0.Name.length:Int)))))<0)then(-1)else(bif decide ((zyb a0.Sectors (zfd a0.Light (znc a0.Mark (IntKind.wrap .i64 (a1-(a0.Name.length:Int))))))<0)then(-1)else(zyb a0.Sectors (zfd a0.Light (znc a0.Mark (IntKind.wrap .i64 (a1-(a0.Name.length:Int))))))))))
namespace N31
theorem DD:DOk Tryz.prog (Go.Ab.DD [(84,dP D_znc),(85,dP D_zfd),(86,dP D_zyb)]):=ya ycz.e <| ya yg1.e <| ya y0z.e <| ye _
theorem dn:type_of% (And.intro @D_znc.eq_1 <| And.intro @D_zfd.eq_1 <| @D_zyb.eq_1):=by and_intros<;>intros<;>rfl
theorem den (a0:Aid) (a1:Int)  : Den Tryz.prog 31 [.agg (eAid a0),.int .i64 a1] (.int .i64 (zzb a0 a1)):=by
 generalize hR:zzb a0 a1=r
 unfold zzb at hR
 refine di Tryz.func31 Tryz.ntmps31 Tryz.results31 ?_
 intro c hL hc hk
 obtain⟨hL0,hL1,_⟩:=hL
 have hw0:bwAid a0:=yt a0 hL0
 clear hL0 hL1
 simp only[pars,Nat.zero_add]
 iterate 3 refine rS ?_
 refine AWP.cond rfl (fun hb => ?_) (fun hb => ?_)
 ·replace hR:=ct hR
  refine rS ?_
  refine AWP.ret ?_
  subst hR
  exact es
 ·replace hR:=cf hR
  iterate 2 refine rS ?_
  refine AWP.cond rfl (fun hb => ?_) (fun hb => ?_)
  ·replace hR:=ct hR
   refine rS ?_
   refine AWP.ret ?_
   subst hR
   exact es
  ·replace hR:=cf hR
   iterate 2 refine rS ?_
   refine AWP.cond rfl (fun hb => ?_) (fun hb => ?_)
   ·replace hR:=ct hR
    refine rS ?_
    refine AWP.ret ?_
    subst hR
    exact es
   ·replace hR:=cf hR
    iterate 2 refine rS ?_
    refine AWP.cond rfl (fun hb => ?_) (fun hb => ?_)
    ·replace hR:=ct hR
     refine rS ?_
     refine AWP.ret ?_
     subst hR
     exact es
    ·replace hR:=cf hR
     refine rS ?_
     refine AWP.ret ?_
     subst hR
     exact es
end N31
def D_zzb : DF
 | [x0,x1]=>some (.int .i64 (zzb (rdG dAid x0) (rdI x1)),false,[wG eAid dAid x0,wI .i64 x1])
 | _=>none
theorem ykt:OkD Tryz.prog 31 D_zzb:=by unfold D_zzb;exact dk N31.den
end Go.Ab

namespace Go.Ab
open Go Go.Proofs
theorem yip (x:Aid) (n:Int) (h0 : -1≤n) (h1:n≤1048576) (hx:bwAid x) : -1≤zzb x n∧zzb x n≤n∧(¬ zzb x n<0→ybr x):=by
 obtain⟨b0,b1,b2,b3⟩:=hx
 unfold zzb
 have b0':x.Name.length<9223372036854775808:=b0
 rw[show IntKind.wrap .i64 (n-(x.Name.length:Int))=n-(x.Name.length:Int)from by rw[IntKind.wrap_i64];omega]
 by_cases c0:n-(x.Name.length:Int)<0
 ·rw[decide_eq_true c0];exact⟨by simp,by simpa using h0,fun h=>absurd (by simp) h⟩
 rw[decide_eq_false c0]
 simp only[cond_false]
 have f1:=yrv x.Mark (n-(x.Name.length:Int)) (by omega) (by omega) b1
 by_cases c1:znc x.Mark (n-(x.Name.length:Int))<0
 ·rw[decide_eq_true c1];exact⟨by simp,by simpa using h0,fun h=>absurd (by simp) h⟩
 rw[decide_eq_false c1]
 simp only[cond_false]
 have f2:=y7v x.Light (znc x.Mark (n-(x.Name.length:Int))) (by omega) (by omega) b2
 by_cases c2:zfd x.Light (znc x.Mark (n-(x.Name.length:Int)))<0
 ·rw[decide_eq_true c2];exact⟨by simp,by simpa using h0,fun h=>absurd (by simp) h⟩
 rw[decide_eq_false c2]
 simp only[cond_false]
 have f3:=yiv x.Sectors (zfd x.Light (znc x.Mark (n-(x.Name.length:Int)))) (by omega) (by omega) b3.1 b3.2
 by_cases c3:zyb x.Sectors (zfd x.Light (znc x.Mark (n-(x.Name.length:Int))))<0
 ·rw[decide_eq_true c3];exact⟨by simp,by simpa using h0,fun h=>absurd (by simp) h⟩
 rw[decide_eq_false c3]
 simp only[cond_false]
 exact⟨by omega,by omega,fun _=>⟨by omega,f1.2.2 c1,f2.2.2 c2,f3.2.2 c3⟩⟩
end Go.Ab

namespace Go.Ab
open Go Go.Proofs
def zhb (a0:Notice) (a1:Int):Int:=
 (bif decide ((zzb a0.Aid a1)<0)then(-1)else(zzb a0.Aid a1))
namespace N50
theorem DD:DOk Tryz.prog (Go.Ab.DD [(31,dP D_zzb)]):=ya ykt.e <| ye _
theorem dn:type_of% (@D_zzb.eq_1):=by and_intros<;>intros<;>rfl
theorem den (a0:Notice) (a1:Int)  : Den Tryz.prog 50 [.agg (eNotice a0),.int .i64 a1] (.int .i64 (zhb a0 a1)):=by
 generalize hR:zhb a0 a1=r
 unfold zhb at hR
 refine di Tryz.func50 Tryz.ntmps50 Tryz.results50 ?_
 intro c hL hc hk
 obtain⟨hL0,hL1,_⟩:=hL
 have hw0:bwNotice a0:=yg a0 hL0
 clear hL0 hL1
 simp only[pars,Nat.zero_add]
 iterate 3 refine rS ?_
 refine AWP.cond rfl (fun hb => ?_) (fun hb => ?_)
 ·replace hR:=ct hR
  refine rS ?_
  refine AWP.ret ?_
  subst hR
  exact es
 ·replace hR:=cf hR
  refine rS ?_
  refine AWP.ret ?_
  subst hR
  exact es
end N50
def D_zhb : DF
 | [x0,x1]=>some (.int .i64 (zhb (rdG yc x0) (rdI x1)),false,[wG eNotice yc x0,wI .i64 x1])
 | _=>none
theorem yfn:OkD Tryz.prog 50 D_zhb:=by unfold D_zhb;exact dk N50.den
end Go.Ab

namespace Go.Ab
open Go Go.Proofs
theorem ycj (x:Notice) (n:Int) (h0 : -1≤n) (h1:n≤1048576) (hx:bwNotice x) : -1≤zhb x n∧zhb x n≤n∧(¬ zhb x n<0→y3g x):=by
 have b0:=hx
 unfold zhb
 have f0:=yip x.Aid (n) (by omega) (by omega) b0
 by_cases c0:zzb x.Aid (n)<0
 ·rw[decide_eq_true c0];exact⟨by simp,by simpa using h0,fun h=>absurd (by simp) h⟩
 rw[decide_eq_false c0]
 simp only[cond_false]
 exact⟨by omega,by omega,fun _=>f0.2.2 c0⟩
end Go.Ab

namespace Go.Ab
open Go Go.Proofs
def yoq (a0:(List Notice)) (a1:Int) (i1:Nat) (s1:Int):Except (Int) (Int):=
 (bif decide ((zhb (a0.getD i1 default) s1)<0)then .error (-1)else .ok (zhb (a0.getD i1 default) s1))
def zm (a0:(List Notice)) (a1:Int):Int:=
 (bif decide ((IntKind.wrap .i64 (a1-(a0.length:Int)))<0)then(-1)else(match yh (yoq a0 a1) (a0.length-0) 0 (IntKind.wrap .i64 (a1-(a0.length:Int)))with|.error e=>e|.ok s1=>s1))
namespace N13
theorem DD:DOk Tryz.prog (Go.Ab.DD [(50,dP D_zhb)]):=ya yfn.e <| ye _
theorem dn:type_of% (@D_zhb.eq_1):=by and_intros<;>intros<;>rfl
theorem den (a0:(List Notice)) (a1:Int)  : Den Tryz.prog 13 [encL 20 eNotice a0,.int .i64 a1] (.int .i64 (zm a0 a1)):=by
 generalize hR:zm a0 a1=r
 unfold zm at hR
 refine di Tryz.func13 Tryz.ntmps13 Tryz.results13 ?_
 intro c hL hc hk
 obtain⟨hL0,hL1,_⟩:=hL
 have hw0:a0.length<9223372036854775808:=Nat.lt_succ_of_le (yb hL0).1
 have hw1:∀ v∈a0,bwNotice v:=fun v hv=>yg v ((yb hL0).2 v hv)
 clear hL0 hL1
 simp only[pars,Nat.zero_add]
 iterate 3 refine rS ?_
 refine AWP.cond rfl (fun hb => ?_) (fun hb => ?_)
 ·replace hR:=ct hR
  refine rS ?_
  refine AWP.ret ?_
  subst hR
  exact es
 ·replace hR:=cf hR
  refine rS ?_
  refine AWP.block ?_
  generalize hz1:yh (yoq a0 a1) (a0.length-0) 0 (IntKind.wrap .i64 (a1-(a0.length:Int)))=z1 at hR
  refine AWP.range (yoq a0 a1) (fun i1 s1=>⟨[(0,encL 20 eNotice a0),(1,.int .i64 s1),(5,.int .i64 (i1:Int))],[]⟩) (fun i1 s1=>True) (a0.length) 0 (IntKind.wrap .i64 (a1-(a0.length:Int))) [] hz1 ot wt sm ?_
  clear hz1
  intro i1 s1 hi1 hW1 hz1
  refine rS ?_
  refine AWP.cond rfl (fun hb => ?_) (fun hb => ?_)
  ·have hlt1:i1<a0.length:=ot
   rw[yj hlt1]at hz1;simp only[yoq]at hz1
   iterate 2 refine rS ?_
   refine AWP.cond rfl (fun hb => ?_) (fun hb => ?_)
   ·simp only[hb,cond_true]at hz1
    refine rS ?_
    refine AWP.ret ?_
    subst hz1
    dsimp only at hR
    subst hR
    exact es
   ·simp only[hb,cond_false]at hz1
    refine rS ?_
    exact⟨_,[],hlt1,wt,hz1,sm⟩
  ·obtain rfl:i1=a0.length:=ot
   rw[yi (Nat.le_refl _)]at hz1;subst hz1;dsimp only at hR
   refine AWP.exit ?_;refine yd ?_
   refine rS ?_
   refine AWP.ret ?_
   subst hR
   exact es
end N13
def D_zm : DF
 | [x0,x1]=>some (.int .i64 (zm (rdL yc x0) (rdI x1)),false,[wL 20 eNotice yc x0,wI .i64 x1])
 | _=>none
theorem yin:OkD Tryz.prog 13 D_zm:=by unfold D_zm;exact dk N13.den
end Go.Ab

namespace Go.Ab
open Go Go.Proofs
theorem y4i (a:List Notice) (n:Int) (h0 : -1≤n) (h1:n≤1048576) (hl:a.length<9223372036854775808) (hx:∀ v∈a,bwNotice v) :
  -1≤zm a n∧zm a n≤n∧(¬ zm a n<0→a.length≤1048576∧∀ v∈a,y3g v):=by
 unfold zm
 rw[show IntKind.wrap .i64 (n-(a.length:Int))=n-a.length from by rw[IntKind.wrap_i64];omega]
 by_cases c:n-(a.length:Int)<0
 ·rw[decide_eq_true c];exact⟨by simp,by simpa using h0,fun h=>absurd (by simp) h⟩
 ·rw[decide_eq_false c]
  simp only[cond_false]
  split
  ·rename_i e h
   obtain⟨j,t,_,_,h3⟩:=yfc h
   simp only[yoq]at h3
   have:e = -1:=by
    cases hq:decide (zhb (a.getD j default) t<0)with
    | true=>rw[hq]at h3;simpa using h3.symm
    | false=>rw[hq]at h3;simp at h3
   omega
  ·rename_i s h
   have:=y5g (b:=yoq a n) (fun i s => -1≤s∧s≤n-a.length∧∀ j,j<i→y3g (a.getD j default)) ⟨by omega,by omega,by intro j hj;omega⟩ (by
    intro j u v h1 h2 ⟨h3,h4,h5⟩ h6
    simp only[yoq]at h6
    have hb:bwNotice (a.getD j default):=yfd hx (by decide) j
    have hf:=ycj (a.getD j default) u h3 (by omega) hb
    cases hq:decide (zhb (a.getD j default) u<0)with
    | true=>rw[hq]at h6;simp at h6
    | false=>
     rw[hq]at h6
     simp only[cond_false,Except.ok.injEq]at h6
     subst h6
     refine⟨by omega,by omega,fun q hq2 => ?_⟩
     by_cases hqj:q=j
     ·subst hqj;exact hf.2.2 (of_decide_eq_false hq)
     ·exact h5 q (by omega)) h
   refine⟨by omega,by omega,fun _=>⟨by omega,fun v hv => ?_⟩⟩
   obtain⟨i,hi,rfl⟩:=List.getElem_of_mem hv
   have:=this.2.2 i (by omega)
   simpa [List.getD_eq_getElem?_getD,hi]using this
end Go.Ab

namespace Go.Ab
open Go Go.Proofs
theorem ybj {a:List Notice} (h:zu a=true):a.length≤32:=by
 unfold zu at h
 split at h
 ·rename_i e he
  obtain⟨j,t,_,_,h3⟩:=yfc he
  simp only[yym,Bool.cond_eq_ite]at h3
  split at h3
  ·cases h3;cases h
  ·cases h3
 ·have:=of_decide_eq_true h;omega
theorem y0i {a:List Notice} (h:zy a=true):a.length≤32:=by
 unfold zy at h
 split at h
 ·rename_i e he
  obtain⟨j,t,_,_,h3⟩:=yfc he
  simp only[yeq,Bool.cond_eq_ite]at h3
  split at h3
  ·cases h3;cases h
  ·cases h3
 ·unfold zbb at h;have:=of_decide_eq_true h;omega
end Go.Ab

namespace Go.Ab
open Go Go.Proofs
theorem yac (a:List Notice) (k:Int) (h:k≤9223372036854775807):(zdb a k).1≤9223372036854775807:=by
 unfold zdb
 obtain⟨t,h1,h2⟩:=yib (b:=ygk a k) (fun _ s=>s.1≤9223372036854775807) (k:=a.length-0) (i:=0) (s:=(k,a)) h (by
  intro j u _ _ h
  exact⟨_,rfl,y7c _⟩)
 rw[h1]
 exact h2
theorem ygc (a:List Notice) (k:Int):(zdb a k).2.length=a.length:=by
 unfold zdb
 obtain⟨t,h1,h2⟩:=yib (b:=ygk a k) (fun _ s=>s.2.length=a.length) (k:=a.length-0) (i:=0) (s:=(k,a)) rfl (by
  intro j u _ _ h
  exact⟨_,rfl,by simpa using h⟩)
 rw[h1]
 exact h2
theorem y5b (a:List Notice) (k:Int):subL (zdb a k).2 0 a.length=(zdb a k).2:=by
 rw[← ygc a k];exact y8c _
end Go.Ab
