/- A part of a proof: walks of functions and lemmas of our own. No conditions. -/
import Derived.Test.YtopoomikfjodkaaGreatDoorRAl
import Derived.Test.YtopoomikfjodkaaGreatDoorRAv
set_option linter.unusedSectionVars false
set_option linter.unusedVariables false
set_option linter.unusedSimpArgs false
set_option maxHeartbeats 1000000
namespace Go.Ab
open Go Go.Proofs
def ysx (a0:(List Sector)) (a1:(List Sector)) (i1:Nat) (s1:Unit):Except (Bool) (Unit):=
 (bif (!(((a0.getD i1 default).From) == ((a1.getD i1 default).From) && (((a0.getD i1 default).To) == ((a1.getD i1 default).To) && ((a0.getD i1 default).Color) == ((a1.getD i1 default).Color))))then .error false else .ok ())
def zlg (a0:(List Sector)) (a1:(List Sector)):Bool:=
 (bif ((a0.length:Int) != (a1.length:Int))then false else(match ye (ysx a0 a1) (a0.length-0) 0 ()with|.error e=>e|.ok s1=>true))
namespace N151
theorem DD:DOk Tryz.prog (Go.Ab.DD []):=yc _
theorem den (a0:(List Sector)) (a1:(List Sector))  : Den Tryz.prog 151 [encL 3 yk a0,encL 3 yk a1] (.bool (zlg a0 a1)):=by
 generalize hR:zlg a0 a1=r
 unfold zlg at hR
 refine di Tryz.func151 Tryz.ntmps151 Tryz.results151 ?_
 intro c hL hc hk
 obtain⟨hL0,hL1,_⟩:=hL
 have hw0:a0.length<9223372036854775808:=Nat.lt_succ_of_le (yf hL0).1
 have hw1:∀ v∈a0,bwSector v:=fun v hv=>yt v ((yf hL0).2 v hv)
 have hw2:a1.length<9223372036854775808:=Nat.lt_succ_of_le (yf hL1).1
 have hw3:∀ v∈a1,bwSector v:=fun v hv=>yt v ((yf hL1).2 v hv)
 clear hL0 hL1
 simp only[pars,Nat.zero_add]
 iterate 2 refine rS ?_
 refine AWP.cond rfl (fun hb => ?_) (fun hb => ?_)
 ·replace hR:=ct hR
  refine rS ?_
  refine AWP.ret ?_
  subst hR
  exact es
 ·replace hR:=cf hR
  refine rS ?_
  refine AWP.block ?_
  generalize hz1:ye (ysx a0 a1) (a0.length-0) 0 ()=z1 at hR
  refine AWP.range (ysx a0 a1) (fun i1 s1=>⟨[(0,encL 3 yk a0),(1,encL 3 yk a1),(12,.int .i64 (a0.length:Int)),(13,.int .i64 (i1:Int))],[]⟩) (fun i1 s1=>True) (a0.length) 0 () [] hz1 ot wt sm ?_
  clear hz1
  intro i1 s1 hi1 hW1 hz1
  refine rS ?_
  refine AWP.seq ?_
  refine AWP.cond rfl (fun hb => ?_) (fun hb => ?_)
  ·have hlt1:i1<a0.length:=ot
   rw[yj hlt1]at hz1;simp only[ysx]at hz1
   refine rS ?_
   refine rD 8 ?_
   refine AWP.cond rfl (fun hb => ?_) (fun hb => ?_)
   ·simp only[hb,cond_true]at hz1
    refine rS ?_
    refine AWP.ret ?_
    subst hz1
    dsimp only at hR
    subst hR
    exact es
   ·simp only[hb,cond_false]at hz1
    refine rS ?_
    exact⟨_,[],hlt1,wt,hz1,sm⟩
  ·obtain rfl:i1=a0.length:=ot
   rw[yi (Nat.le_refl _)]at hz1;subst hz1;dsimp only at hR
   refine AWP.exit ?_;refine yb ?_
   refine rS ?_
   refine AWP.ret ?_
   subst hR
   exact es
end N151
def D_zlg : DF
 | [x0,x1]=>some (.bool (zlg (rdL yq x0) (rdL yq x1)),false,[wL 3 yk yq x0,wL 3 yk yq x1])
 | _=>none
theorem y37:OkD Tryz.prog 151 D_zlg:=by unfold D_zlg;exact dk N151.den
end Go.Ab

namespace Go.Ab
open Go Go.Proofs
def zwh (a0:Aid) (a1:Aid):Bool:=
 ((((((((a0.Number == a1.Number) && (a0.Name == a1.Name)) && (a0.At.X == a1.At.X && a0.At.Y == a1.At.Y)) && (a0.Height == a1.Height)) && (a0.Mark.Kind == a1.Mark.Kind && (a0.Mark.Colors == a1.Mark.Colors && (a0.Mark.Shape == a1.Mark.Shape && a0.Mark.Topmark == a1.Mark.Topmark)))) && (zxf a0.Light a1.Light)) && (zlg a0.Sectors a1.Sectors)) && (a0.Intensity == a1.Intensity))
namespace N62
theorem DD:DOk Tryz.prog (Go.Ab.DD [(150,dP D_zxf),(151,dP D_zlg)]):=ya ypy.e <| ya y37.e <| yc _
theorem dn:type_of% (And.intro @D_zxf.eq_1 <| @D_zlg.eq_1):=by and_intros<;>intros<;>rfl
set_option maxHeartbeats 4000000 in
set_option maxRecDepth 20000 in
theorem den (a0:Aid) (a1:Aid)  : Den Tryz.prog 62 [.agg (eAid a0),.agg (eAid a1)] (.bool (zwh a0 a1)):=by
 generalize hR:zwh a0 a1=r
 unfold zwh at hR
 refine di Tryz.func62 Tryz.ntmps62 Tryz.results62 ?_
 intro c hL hc hk
 obtain⟨hL0,hL1,_⟩:=hL
 have hw0:bwAid a0:=yxb a0 hL0
 have hw1:bwAid a1:=yxb a1 hL1
 clear hL0 hL1
 simp only[pars,Nat.zero_add]
 iterate 2 refine rS ?_
 refine AWP.ret ?_
 subst hR
 exact es
end N62
def D_zwh : DF
 | [x0,x1]=>some (.bool (zwh (rdG dAid x0) (rdG dAid x1)),false,[wG eAid dAid x0,wG eAid dAid x1])
 | _=>none
theorem yz5:OkD Tryz.prog 62 D_zwh:=by unfold D_zwh;exact dk N62.den
end Go.Ab

namespace Go.Ab
open Go Go.Proofs
def zmd (a0:Notice):Bool:=
 ((a0.Kind == 1) || (a0.Kind == 2))
namespace N126
theorem DD:DOk Tryz.prog (Go.Ab.DD []):=yc _
theorem den (a0:Notice)  : Den Tryz.prog 126 [.agg (ygc a0)] (.bool (zmd a0)):=by
 generalize hR:zmd a0=r
 unfold zmd at hR
 refine di Tryz.func126 Tryz.ntmps126 Tryz.results126 ?_
 intro c hL hc hk
 obtain⟨hL0,_⟩:=hL
 have hw0:bwNotice a0:=ytc a0 hL0
 clear hL0
 simp only[pars,Nat.zero_add]
 iterate 2 refine rS ?_
 refine AWP.ret ?_
 subst hR
 exact es
end N126
def D_zmd : DF
 | [x0]=>some (.bool (zmd (rdG ynb x0)),false,[wG ygc ynb x0])
 | _=>none
theorem yiq:OkD Tryz.prog 126 D_zmd:=by unfold D_zmd;exact dk N126.den
end Go.Ab
