/- A part of a proof: walks of functions and lemmas of our own. No conditions. -/
import Derived.Test.YtopoomikfjodkaaGreatDoorVAl
import Derived.Test.YtopoomikfjodkaaGreatDoorVAy
set_option linter.unusedSectionVars false
set_option linter.unusedVariables false
set_option linter.unusedSimpArgs false
set_option maxHeartbeats 1000000
namespace Go.Ab
open Go Go.Proofs
def ztg (a0:Item):Bool:=
 ((zpb a0.Key) && decide ((a0.Text.length:Int)≤400))
namespace N116
theorem DD:DOk Tryz.prog (Go.Ab.DD [(195,dP D_zpb)]):=ya y3r.e <| yd _
theorem dn:type_of% (@D_zpb.eq_1):=by and_intros<;>intros<;>rfl
theorem den (a0:Item)  : Den Tryz.prog 116 [.ep (ygc a0)] (.bool (ztg a0)):=by
 generalize hR:ztg a0=r
 unfold ztg at hR
 refine di Tryz.func116 Tryz.ntmps116 Tryz.results116 ?_
 intro c hL hc hk
 obtain⟨hL0,_⟩:=hL
 have hw0:bwItem a0:=y4c a0 hL0
 clear hL0
 simp only[pars,Nat.zero_add]
 iterate 2 refine rS ?_
 refine AWP.ret ?_
 subst hR
 exact es
end N116
def D_ztg : DF
 | [x0]=>some (.bool (ztg (rdP ycd x0)),false,[wP ygc ycd x0])
 | _=>none
theorem y11:OkD Tryz.prog 116 D_ztg:=by unfold D_ztg;exact dk N116.den
end Go.Ab
