/- A part of a proof: walks of functions and lemmas of our own. No conditions. -/
import Derived.Test.YtopoomikfjodkaaGreatDoorVAl
import Derived.Test.YtopoomikfjodkaaGreatDoorVAs
set_option linter.unusedSectionVars false
set_option linter.unusedVariables false
set_option linter.unusedSimpArgs false
set_option maxHeartbeats 1000000
namespace Go.Ab
open Go Go.Proofs
def zeg (a0:Int):(List UInt8):=
 (zu a0 [[],[110,101,119],[99,104,97,110,103,101],[100,114,111,112],[99,97,110,99,101,108]])
namespace N128
theorem DD:DOk Tryz.prog (Go.Ab.DD [(90,dP D_zu)]):=ya ygh.e <| yd _
theorem dn:type_of% (@D_zu.eq_1):=by and_intros<;>intros<;>rfl
theorem lx {p:Prop} (h:p:=by(exact lxx);first|done|fail):p:=h
theorem den (a0:Int)  : Den Tryz.prog 128 [.int .i64 a0] (.str (zeg a0)):=by
 generalize hR:zeg a0=r
 unfold zeg at hR
 refine di Tryz.func128 Tryz.ntmps128 Tryz.results128 ?_
 intro c hL hc hk
 clear hL
 simp only[pars,Nat.zero_add]
 iterate 2 refine rS ?_
 refine AWP.ret ?_
 subst hR
 exact es
end N128
def D_zeg : DF
 | [x0]=>some (.str (zeg (rdI x0)),false,[wI .i64 x0])
 | _=>none
theorem yk0:OkD Tryz.prog 128 D_zeg:=by unfold D_zeg;exact dk N128.den
end Go.Ab
