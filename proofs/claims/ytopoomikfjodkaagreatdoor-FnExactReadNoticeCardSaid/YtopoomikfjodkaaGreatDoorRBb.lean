/- A part of a proof: walks of functions and lemmas of our own. No conditions. -/
import Derived.Test.YtopoomikfjodkaaGreatDoorRAl
import Derived.Test.YtopoomikfjodkaaGreatDoorRAv
set_option linter.unusedSectionVars false
set_option linter.unusedVariables false
set_option linter.unusedSimpArgs false
set_option maxHeartbeats 1000000
namespace Go.Ab
open Go Go.Proofs
def zfc (a0:Int):(List UInt8):=
 (zkb a0 [[],[110,101,119],[99,104,97,110,103,101],[100,114,111,112],[99,97,110,99,101,108]])
namespace N128
theorem DD:DOk Tryz.prog (Go.Ab.DD [(90,dP D_zkb)]):=ya yvf.e <| yc _
theorem dn:type_of% (@D_zkb.eq_1):=by and_intros<;>intros<;>rfl
theorem lx {p:Prop} (h:p:=by(exact lxx);first|done|fail):p:=h
theorem den (a0:Int)  : Den Tryz.prog 128 [.int .i64 a0] (.str (zfc a0)):=by
 generalize hR:zfc a0=r
 unfold zfc at hR
 refine di Tryz.func128 Tryz.ntmps128 Tryz.results128 ?_
 intro c hL hc hk
 clear hL
 simp only[pars,Nat.zero_add]
 iterate 2 refine rS ?_
 refine AWP.ret ?_
 subst hR
 exact es
end N128
def D_zfc : DF
 | [x0]=>some (.str (zfc (rdI x0)),false,[wI .i64 x0])
 | _=>none
theorem ynw:OkD Tryz.prog 128 D_zfc:=by unfold D_zfc;exact dk N128.den
end Go.Ab
