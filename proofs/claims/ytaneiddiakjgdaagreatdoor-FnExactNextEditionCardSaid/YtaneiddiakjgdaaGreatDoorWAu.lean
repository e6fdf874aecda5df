/- A part of a proof: walks of functions and lemmas of our own. No conditions. -/
import Derived.Test.YtaneiddiakjgdaaGreatDoorWAl
import Derived.Test.YtaneiddiakjgdaaGreatDoorWAi
import Derived.Test.YtaneiddiakjgdaaGreatDoorWAs
set_option linter.unusedSectionVars false
set_option linter.unusedVariables false
set_option linter.unusedSimpArgs false
set_option maxHeartbeats 1000000
namespace Go.Ab
open Go Go.Proofs
theorem ysk (P:Notice→Prop) (a:List Notice) (d:Int) (hP:∀ v∈a,P v):(zr a d).length≤a.length∧∀ v∈zr a d,P v:=by
 unfold zr
 obtain⟨t,h1,h2⟩:=yib (b:=yzp a d) (fun j s=>s.length≤j∧∀ v∈s,P v) (k:=a.length-0) (i:=0) (s:=[]) ⟨by simp,fun v hv=>by simp at hv⟩ (by
  intro j u _ hj h
  simp only[yzp]
  cases(((((a.getD j default).Kind) != 4) && decide (((a.getD j default).Day)≤d)) && (!(zoe a (a.getD j default) d)))with
  | true=>
   refine⟨_,rfl,by simp;exact h.1,fun v hv => ?_⟩
   rcases List.mem_append.1 hv with hv|hv
   ·exact h.2 v hv
   ·have:v=a.getD j default:=by simpa using hv
    subst this
    rw[List.getD_eq_getElem?_getD,List.getElem?_eq_getElem (show j<a.length by omega)]
    exact hP _ (List.getElem_mem (by omega))
  | false=>exact⟨_,rfl,by omega,h.2⟩)
 rw[h1]
 simpa using h2
theorem yrk (a:List Notice) (d:Int):(zr a d).length≤a.length:=(ysk (fun _=>True) a d (fun _ _=>trivial)).1
end Go.Ab
