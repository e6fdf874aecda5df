/- A part of a proof: walks of functions and lemmas of our own. No conditions. -/
import Derived.Test.YtopoomikfjodkaaGreatDoorVAl
import Derived.Test.YtopoomikfjodkaaGreatDoorVAt
set_option linter.unusedSectionVars false
set_option linter.unusedVariables false
set_option linter.unusedSimpArgs false
set_option maxHeartbeats 1000000
namespace Go.Ab
open Go Go.Proofs
def yhs (a0:(List Sector)) (a1:(List Sector)) (i1:Nat) (s1:Unit):Except (Bool) (Unit):=
 (bif (!(((a0.getD i1 default).From) == ((a1.getD i1 default).From) && (((a0.getD i1 default).To) == ((a1.getD i1 default).To) && ((a0.getD i1 default).Color) == ((a1.getD i1 default).Color))))then .error false else .ok ())
def zue (a0:(List Sector)) (a1:(List Sector)):Bool:=
 (bif ((a0.length:Int) != (a1.length:Int))then false else(match yf (yhs a0 a1) (a0.length-0) 0 ()with|.error e=>e|.ok s1=>true))
namespace N151
theorem DD:DOk Tryz.prog (Go.Ab.DD []):=yd _
theorem den (a0:(List Sector)) (a1:(List Sector))  : Den Tryz.prog 151 [encL 3 eSector a0,encL 3 eSector a1] (.bool (zue a0 a1)):=by
 generalize hR:zue a0 a1=r
 unfold zue at hR
 refine di Tryz.func151 Tryz.ntmps151 Tryz.results151 ?_
 intro c hL hc hk
 obtain⟨hL0,hL1,_⟩:=hL
 have hw0:a0.length<9223372036854775808:=Nat.lt_succ_of_le (ye hL0).1
 have hw1:∀ v∈a0,bwSector v:=fun v hv=>yn v ((ye hL0).2 v hv)
 have hw2:a1.length<9223372036854775808:=Nat.lt_succ_of_le (ye hL1).1
 have hw3:∀ v∈a1,bwSector v:=fun v hv=>yn v ((ye hL1).2 v hv)
 clear hL0 hL1
 simp only[pars,Nat.zero_add]
 iterate 2 refine rS ?_
 refine AWP.cond rfl (fun hb => ?_) (fun hb => ?_)
 ·replace hR:=ct hR
  refine rS ?_
  refine AWP.ret ?_
  subst hR
  exact es
 ·replace hR:=cf hR
  refine rS ?_
  refine AWP.block ?_
  generalize hz1:yf (yhs a0 a1) (a0.length-0) 0 ()=z1 at hR
  refine AWP.range (yhs a0 a1) (fun i1 s1=>⟨[(0,encL 3 eSector a0),(1,encL 3 eSector a1),(12,.int .i64 (a0.length:Int)),(13,.int .i64 (i1:Int))],[]⟩) (fun i1 s1=>True) (a0.length) 0 () [] hz1 ot wt sm ?_
  clear hz1
  intro i1 s1 hi1 hW1 hz1
  refine rS ?_
  refine AWP.seq ?_
  refine AWP.cond rfl (fun hb => ?_) (fun hb => ?_)
  ·have hlt1:i1<a0.length:=ot
   rw[yh hlt1]at hz1;simp only[yhs]at hz1
   refine rS ?_
   refine rD 8 ?_
   refine AWP.cond rfl (fun hb => ?_) (fun hb => ?_)
   ·simp only[hb,cond_true]at hz1
    refine rS ?_
    refine AWP.ret ?_
    subst hz1
    dsimp only at hR
    subst hR
    exact es
   ·simp only[hb,cond_false]at hz1
    refine rS ?_
    exact⟨_,[],hlt1,wt,hz1,sm⟩
  ·obtain rfl:i1=a0.length:=ot
   rw[yi (Nat.le_refl _)]at hz1;subst hz1;dsimp only at hR
   refine AWP.exit ?_;refine yb ?_
   refine rS ?_
   refine AWP.ret ?_
   subst hR
   exact es
end N151
def D_zue : DF
 | [x0,x1]=>some (.bool (zue (rdL yk x0) (rdL yk x1)),false,[wL 3 eSector yk x0,wL 3 eSector yk x1])
 | _=>none
theorem yb0:OkD Tryz.prog 151 D_zue:=by unfold D_zue;exact dk N151.den
end Go.Ab

namespace Go.Ab
open Go Go.Proofs
def zog (a0:Aid) (a1:Aid):Bool:=
 ((((((((a0.Number == a1.Number) && (a0.Name == a1.Name)) && (a0.At.X == a1.At.X && a0.At.Y == a1.At.Y)) && (a0.Height == a1.Height)) && (a0.Mark.Kind == a1.Mark.Kind && (a0.Mark.Colors == a1.Mark.Colors && (a0.Mark.Shape == a1.Mark.Shape && a0.Mark.Topmark == a1.Mark.Topmark)))) && (zje a0.Light a1.Light)) && (zue a0.Sectors a1.Sectors)) && (a0.Intensity == a1.Intensity))
namespace N62
theorem DD:DOk Tryz.prog (Go.Ab.DD [(150,dP D_zje),(151,dP D_zue)]):=ya yer.e <| ya yb0.e <| yd _
theorem dn:type_of% (And.intro @D_zje.eq_1 <| @D_zue.eq_1):=by and_intros<;>intros<;>rfl
set_option maxHeartbeats 4000000 in
set_option maxRecDepth 20000 in
theorem den (a0:Aid) (a1:Aid)  : Den Tryz.prog 62 [.agg (eAid a0),.agg (eAid a1)] (.bool (zog a0 a1)):=by
 generalize hR:zog a0 a1=r
 unfold zog at hR
 refine di Tryz.func62 Tryz.ntmps62 Tryz.results62 ?_
 intro c hL hc hk
 obtain⟨hL0,hL1,_⟩:=hL
 have hw0:bwAid a0:=yy a0 hL0
 have hw1:bwAid a1:=yy a1 hL1
 clear hL0 hL1
 simp only[pars,Nat.zero_add]
 iterate 2 refine rS ?_
 refine AWP.ret ?_
 subst hR
 exact es
end N62
def D_zog : DF
 | [x0,x1]=>some (.bool (zog (rdG dAid x0) (rdG dAid x1)),false,[wG eAid dAid x0,wG eAid dAid x1])
 | _=>none
theorem y7z:OkD Tryz.prog 62 D_zog:=by unfold D_zog;exact dk N62.den
end Go.Ab

namespace Go.Ab
open Go Go.Proofs
def zqe (a0:Notice):Bool:=
 ((a0.Kind == 1) || (a0.Kind == 2))
namespace N126
theorem DD:DOk Tryz.prog (Go.Ab.DD []):=yd _
theorem den (a0:Notice)  : Den Tryz.prog 126 [.agg (eNotice a0)] (.bool (zqe a0)):=by
 generalize hR:zqe a0=r
 unfold zqe at hR
 refine di Tryz.func126 Tryz.ntmps126 Tryz.results126 ?_
 intro c hL hc hk
 obtain⟨hL0,_⟩:=hL
 have hw0:bwNotice a0:=yeb a0 hL0
 clear hL0
 simp only[pars,Nat.zero_add]
 iterate 2 refine rS ?_
 refine AWP.ret ?_
 subst hR
 exact es
end N126
def D_zqe : DF
 | [x0]=>some (.bool (zqe (rdG y9 x0)),false,[wG eNotice y9 x0])
 | _=>none
theorem ylr:OkD Tryz.prog 126 D_zqe:=by unfold D_zqe;exact dk N126.den
end Go.Ab
