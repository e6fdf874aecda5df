/- A part of a proof: walks of functions and lemmas of our own. No conditions. -/
import Derived.Test.YtopoomikfjodkaaGreatDoorVAt
import Derived.Test.YtopoomikfjodkaaGreatDoorVAs
set_option linter.unusedSectionVars false
set_option linter.unusedVariables false
set_option linter.unusedSimpArgs false
set_option maxHeartbeats 1000000
namespace Go.Ab
open Go Go.Proofs
theorem y6j (a:Int):(zbb a).length≤10000:=by
 unfold zbb zmc zb
 by_cases h:0≤a∧a≤99999
 ·have hr:=yz2 a h.1 h.2
  have l1:=yvb (zh a).1
  have l2:=ybm (zh a).2.1 (by omega) (by omega)
  have l3:=ybm (zh a).2.2 (by omega) (by omega)
  simp only[h.1,h.2,decide_true,Bool.and_self,Bool.not_true,cond_false,List.length_append,List.length_cons,List.length_nil]
  omega
 ·have:(decide (0≤a) && decide (a≤99999))=false:=by simpa using h
  simp[this]
end Go.Ab
