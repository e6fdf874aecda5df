/- A part of a proof: walks of functions and lemmas of our own. No conditions. -/
import Derived.Test.YtopoomikfjodkaaGreatDoorQAl
import Derived.Test.YtopoomikfjodkaaGreatDoorQAi
import Derived.Test.YtopoomikfjodkaaGreatDoorQAj
import Derived.Test.YtopoomikfjodkaaGreatDoorRows
set_option linter.unusedSectionVars false
set_option linter.unusedVariables false
set_option linter.unusedSimpArgs false
set_option maxHeartbeats 1000000



namespace Go.Ab
open Go Go.Proofs Go.Deep Go.ChangeShapes Go.WideShapes Go.ChangeAt Go.RowKit
set_option maxRecDepth 100000
theorem yr7:Rd Tryz.prog 192 eItem:=by
 intro H enc W base sp hd fuel cs x h
 obtain⟨hl,hf⟩:=yaz Tryz.underlying192 h
 have e0:Tryz.prog.cellsOf 192=2:=by kernel_rfl
 rw[e0]at hl
 obtain⟨n0,y0,g0⟩:=hf 0 _ rfl
 have c0:Tryz.prog.cellsOf 9=1:=by kernel_rfl
 obtain⟨v0,r0,o0⟩:=(y63 Tryz.underlying9) g0
 replace r0:RepL W (fun _=>False) ([.str v0]) yl ((cs.drop 0).take (Tryz.prog.cellsOf 9)) []:=r0
 replace o0:∀ u∈(cs.drop 0).take (Tryz.prog.cellsOf 9),u.oneCell'=true:=o0
 rw[c0]at r0 o0
 obtain⟨n1,y1,g1⟩:=hf 1 _ rfl
 have c1:Tryz.prog.cellsOf 9=1:=by kernel_rfl
 obtain⟨v1,r1,o1⟩:=(y63 Tryz.underlying9) g1
 replace r1:RepL W (fun _=>False) ([.str v1]) yl ((cs.drop 1).take (Tryz.prog.cellsOf 9)) []:=r1
 replace o1:∀ u∈(cs.drop 1).take (Tryz.prog.cellsOf 9),u.oneCell'=true:=o1
 rw[c1]at r1 o1
 refine⟨⟨v0,v1⟩,?_,?_⟩
 ·exact y9n (o:=0) (k:=1) r0 (y9n (o:=1) (k:=1) r1 (y54 (o:=2) (by omega)))
 ·exact y4q (o:=0) (k:=1) o0 (y4q (o:=1) (k:=1) o1 (y55 (o:=2) (by omega)))
theorem yi7:Rd Tryz.prog 108 (fun l:List Item=>[encL 2 eItem l]):=y6z Tryz.underlying108 (by kernel_rfl) (by decide) yr7
end Go.Ab
