/- A part of a proof: walks of functions and lemmas of our own. No conditions. -/
import Derived.Test.YtopoomikfjodkaaGreatDoorVAl
import Derived.Test.YtopoomikfjodkaaGreatDoorVAy
set_option linter.unusedSectionVars false
set_option linter.unusedVariables false
set_option linter.unusedSimpArgs false
set_option maxHeartbeats 1000000
namespace Go.Ab
open Go Go.Proofs
def yys (a0:(List Sector)) (a1:(List Sector)) (i1:Nat) (s1:Unit):Except (Bool) (Unit):=
 (bif (!(((a0.getD i1 default).From) == ((a1.getD i1 default).From) && (((a0.getD i1 default).To) == ((a1.getD i1 default).To) && ((a0.getD i1 default).Color) == ((a1.getD i1 default).Color))))then .error false else .ok ())
def zbf (a0:(List Sector)) (a1:(List Sector)):Bool:=
 (bif ((a0.length:Int) != (a1.length:Int))then false else(match yf (yys a0 a1) (a0.length-0) 0 ()with|.error e=>e|.ok s1=>true))
namespace N292
theorem DD:DOk Tryz.prog (Go.Ab.DD []):=yd _
theorem den (a0:(List Sector)) (a1:(List Sector))  : Den Tryz.prog 292 [encL 3 eSector a0,encL 3 eSector a1] (.bool (zbf a0 a1)):=by
 generalize hR:zbf a0 a1=r
 unfold zbf at hR
 refine di Tryz.func292 Tryz.ntmps292 Tryz.results292 ?_
 intro c hL hc hk
 obtain⟨hL0,hL1,_⟩:=hL
 have hw0:a0.length<9223372036854775808:=Nat.lt_succ_of_le (ye hL0).1
 have hw1:∀ v∈a0,bwSector v:=fun v hv=>yn v ((ye hL0).2 v hv)
 have hw2:a1.length<9223372036854775808:=Nat.lt_succ_of_le (ye hL1).1
 have hw3:∀ v∈a1,bwSector v:=fun v hv=>yn v ((ye hL1).2 v hv)
 clear hL0 hL1
 simp only[pars,Nat.zero_add]
 iterate 2 refine rS ?_
 refine AWP.cond rfl (fun hb => ?_) (fun hb => ?_)
 ·replace hR:=ct hR
  refine rS ?_
  refine AWP.ret ?_
  subst hR
  exact es
 ·replace hR:=cf hR
  refine rS ?_
  refine AWP.block ?_
  generalize hz1:yf (yys a0 a1) (a0.length-0) 0 ()=z1 at hR
  refine AWP.range (yys a0 a1) (fun i1 s1=>⟨[(0,encL 3 eSector a0),(1,encL 3 eSector a1),(5,.int .i64 (i1:Int))],[]⟩) (fun i1 s1=>True) (a0.length) 0 () [] hz1 ot wt sm ?_
  clear hz1
  intro i1 s1 hi1 hW1 hz1
  refine rS ?_
  refine AWP.cond rfl (fun hb => ?_) (fun hb => ?_)
  ·have hlt1:i1<a0.length:=ot
   rw[yh hlt1]at hz1;simp only[yys]at hz1
   refine rD 8 ?_
   refine AWP.cond rfl (fun hb => ?_) (fun hb => ?_)
   ·simp only[hb,cond_true]at hz1
    refine rS ?_
    refine AWP.ret ?_
    subst hz1
    dsimp only at hR
    subst hR
    exact es
   ·simp only[hb,cond_false]at hz1
    refine rS ?_
    exact⟨_,[],hlt1,wt,hz1,sm⟩
  ·obtain rfl:i1=a0.length:=ot
   rw[yi (Nat.le_refl _)]at hz1;subst hz1;dsimp only at hR
   refine AWP.exit ?_;refine yb ?_
   refine rS ?_
   refine AWP.ret ?_
   subst hR
   exact es
end N292
def D_zbf : DF
 | [x0,x1]=>some (.bool (zbf (rdL yk x0) (rdL yk x1)),false,[wL 3 eSector yk x0,wL 3 eSector yk x1])
 | _=>none
theorem y9x:OkD Tryz.prog 292 D_zbf:=by unfold D_zbf;exact dk N292.den
end Go.Ab

namespace Go.Ab
open Go Go.Proofs
def yks (a0:(List Int)) (a1:(List Int)) (i1:Nat) (s1:Unit):Except (Bool) (Unit):=
 (bif ((a0.getD i1 default) != (a1.getD i1 default))then .error false else .ok ())
def zcf (a0:(List Int)) (a1:(List Int)):Bool:=
 (bif ((a0.length:Int) != (a1.length:Int))then false else(match yf (yks a0 a1) (a0.length-0) 0 ()with|.error e=>e|.ok s1=>true))
namespace N343
theorem DD:DOk Tryz.prog (Go.Ab.DD []):=yd _
theorem den (a0:(List Int)) (a1:(List Int))  : Den Tryz.prog 343 [encL 1 yp a0,encL 1 yp a1] (.bool (zcf a0 a1)):=by
 generalize hR:zcf a0 a1=r
 unfold zcf at hR
 refine di Tryz.func343 Tryz.ntmps343 Tryz.results343 ?_
 intro c hL hc hk
 obtain⟨hL0,hL1,_⟩:=hL
 have hw0:a0.length<9223372036854775808:=Nat.lt_succ_of_le (ye hL0).1
 have hw1:a1.length<9223372036854775808:=Nat.lt_succ_of_le (ye hL1).1
 clear hL0 hL1
 simp only[pars,Nat.zero_add]
 iterate 2 refine rS ?_
 refine AWP.cond rfl (fun hb => ?_) (fun hb => ?_)
 ·replace hR:=ct hR
  refine rS ?_
  refine AWP.ret ?_
  subst hR
  exact es
 ·replace hR:=cf hR
  refine rS ?_
  refine AWP.block ?_
  generalize hz1:yf (yks a0 a1) (a0.length-0) 0 ()=z1 at hR
  refine AWP.range (yks a0 a1) (fun i1 s1=>⟨[(0,encL 1 yp a0),(1,encL 1 yp a1),(5,.int .i64 (i1:Int))],[]⟩) (fun i1 s1=>True) (a0.length) 0 () [] hz1 ot wt sm ?_
  clear hz1
  intro i1 s1 hi1 hW1 hz1
  refine rS ?_
  refine AWP.cond rfl (fun hb => ?_) (fun hb => ?_)
  ·have hlt1:i1<a0.length:=ot
   rw[yh hlt1]at hz1;simp only[yks]at hz1
   refine rD 8 ?_
   refine AWP.cond rfl (fun hb => ?_) (fun hb => ?_)
   ·simp only[hb,cond_true]at hz1
    refine rS ?_
    refine AWP.ret ?_
    subst hz1
    dsimp only at hR
    subst hR
    exact es
   ·simp only[hb,cond_false]at hz1
    refine rS ?_
    exact⟨_,[],hlt1,wt,hz1,sm⟩
  ·obtain rfl:i1=a0.length:=ot
   rw[yi (Nat.le_refl _)]at hz1;subst hz1;dsimp only at hR
   refine AWP.exit ?_;refine yb ?_
   refine rS ?_
   refine AWP.ret ?_
   subst hR
   exact es
end N343
def D_zcf : DF
 | [x0,x1]=>some (.bool (zcf (rdL yob x0) (rdL yob x1)),false,[wL 1 yp yob x0,wL 1 yp yob x1])
 | _=>none
theorem y6z:OkD Tryz.prog 343 D_zcf:=by unfold D_zcf;exact dk N343.den
end Go.Ab

namespace Go.Ab
open Go Go.Proofs
def zsg (a0:Character) (a1:Character):Bool:=
 (((((a0.Kind == a1.Kind) && (zcf a0.Group a1.Group)) && (a0.Letter == a1.Letter)) && (a0.Colors == a1.Colors)) && (a0.Period == a1.Period))
namespace N291
theorem DD:DOk Tryz.prog (Go.Ab.DD [(343,dP D_zcf)]):=ya y6z.e <| yd _
theorem dn:type_of% (@D_zcf.eq_1):=by and_intros<;>intros<;>rfl
theorem den (a0:Character) (a1:Character)  : Den Tryz.prog 291 [.ep (eCharacter a0),.ep (eCharacter a1)] (.bool (zsg a0 a1)):=by
 generalize hR:zsg a0 a1=r
 unfold zsg at hR
 refine di Tryz.func291 Tryz.ntmps291 Tryz.results291 ?_
 intro c hL hc hk
 obtain⟨hL0,hL1,_⟩:=hL
 have hw0:bwCharacter a0:=ym a0 hL0
 have hw1:bwCharacter a1:=ym a1 hL1
 clear hL0 hL1
 simp only[pars,Nat.zero_add]
 refine rS ?_
 refine rD 53 ?_
 refine AWP.ret ?_
 subst hR
 exact es
end N291
def D_zsg : DF
 | [x0,x1]=>some (.bool (zsg (rdP yc x0) (rdP yc x1)),false,[wP eCharacter yc x0,wP eCharacter yc x1])
 | _=>none
theorem yv0:OkD Tryz.prog 291 D_zsg:=by unfold D_zsg;exact dk N291.den
end Go.Ab

namespace Go.Ab
open Go Go.Proofs
def zlf (a0:Aid) (a1:Aid):Bool:=
 ((((((((a0.Number == a1.Number) && (a0.Name == a1.Name)) && (a0.At.X == a1.At.X && a0.At.Y == a1.At.Y)) && (a0.Height == a1.Height)) && (a0.Mark.Kind == a1.Mark.Kind && (a0.Mark.Colors == a1.Mark.Colors && (a0.Mark.Shape == a1.Mark.Shape && a0.Mark.Topmark == a1.Mark.Topmark)))) && (zsg a0.Light a1.Light)) && (zbf a0.Sectors a1.Sectors)) && (a0.Intensity == a1.Intensity))
namespace N224
theorem DD:DOk Tryz.prog (Go.Ab.DD [(291,dP D_zsg),(292,dP D_zbf)]):=ya yv0.e <| ya y9x.e <| yd _
theorem dn:type_of% (And.intro @D_zsg.eq_1 <| @D_zbf.eq_1):=by and_intros<;>intros<;>rfl
set_option maxHeartbeats 4000000 in
set_option maxRecDepth 20000 in
theorem den (a0:Aid) (a1:Aid)  : Den Tryz.prog 224 [.ep (eAid a0),.ep (eAid a1)] (.bool (zlf a0 a1)):=by
 generalize hR:zlf a0 a1=r
 unfold zlf at hR
 refine di Tryz.func224 Tryz.ntmps224 Tryz.results224 ?_
 intro c hL hc hk
 obtain⟨hL0,hL1,_⟩:=hL
 have hw0:bwAid a0:=yy a0 hL0
 have hw1:bwAid a1:=yy a1 hL1
 clear hL0 hL1
 simp only[pars,Nat.zero_add]
 refine rS ?_
 refine rD 84 ?_
 refine AWP.ret ?_
 subst hR
 exact es
end N224
def D_zlf : DF
 | [x0,x1]=>some (.bool (zlf (rdP dAid x0) (rdP dAid x1)),false,[wP eAid dAid x0,wP eAid dAid x1])
 | _=>none
theorem y91:OkD Tryz.prog 224 D_zlf:=by unfold D_zlf;exact dk N224.den
end Go.Ab

namespace Go.Ab
open Go Go.Proofs
def zxd (a0:Int):Bool:=
 (ze a0 0 99999)
namespace N223
theorem DD:DOk Tryz.prog (Go.Ab.DD [(170,dP D_ze)]):=ya yld.e <| yd _
theorem dn:type_of% (@D_ze.eq_1):=by and_intros<;>intros<;>rfl
theorem ol:type_of% (@ze.eq_1):=@ze.eq_1
theorem den (a0:Int)  : Den Tryz.prog 223 [.int .i64 a0] (.bool (zxd a0)):=by
 generalize hR:zxd a0=r
 unfold zxd at hR
 refine di Tryz.func223 Tryz.ntmps223 Tryz.results223 ?_
 intro c hL hc hk
 clear hL
 simp only[pars,Nat.zero_add]
 iterate 2 refine rS ?_
 refine AWP.ret ?_
 subst hR
 exact es
end N223
def D_zxd : DF
 | [x0]=>some (.bool (zxd (rdI x0)),false,[wI .i64 x0])
 | _=>none
theorem y5r:OkD Tryz.prog 223 D_zxd:=by unfold D_zxd;exact dk N223.den
end Go.Ab
