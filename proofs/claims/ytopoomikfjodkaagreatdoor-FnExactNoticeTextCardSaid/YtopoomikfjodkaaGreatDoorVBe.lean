/- A part of a proof: walks of functions and lemmas of our own. No conditions. -/
import Derived.Test.YtopoomikfjodkaaGreatDoorVAl
set_option linter.unusedSectionVars false
set_option linter.unusedVariables false
set_option linter.unusedSimpArgs false
set_option maxHeartbeats 1000000
namespace Go.Ab
open Go Go.Proofs
def zvc  : (List (List UInt8)):=
 [[],[110,101,119],[99,104,97,110,103,101],[100,114,111,112],[99,97,110,99,101,108]]
namespace N226
theorem DD:DOk Tryz.prog (Go.Ab.DD []):=yd _
theorem lx {p:Prop} (h:p:=by(exact lxx);first|done|fail):p:=h
theorem den   : Den Tryz.prog 226 [] (ownL 9 1 eS (zvc)):=by
 generalize hR:zvc=r
 unfold zvc at hR
 refine di Tryz.func226 Tryz.ntmps226 Tryz.results226 ?_
 intro c hL hc hk
 clear hL
 simp only[pars,Nat.zero_add]
 iterate 2 refine rS ?_
 refine AWP.ret ?_
 subst hR
 exact es
end N226
def D_zvc : DF
 | []=>some (ownL 9 1 eS zvc,false,[])
 | _=>none
def Dz_zvc : DF
 | []=>some (ownL 9 1 eS zvc,true,[])
 | _=>none
theorem yqz:OkD Tryz.prog 226 D_zvc:=by unfold D_zvc;exact dk N226.den
theorem ydw:OkD Tryz.prog 226 Dz_zvc:=by unfold Dz_zvc;exact dk N226.den
end Go.Ab
