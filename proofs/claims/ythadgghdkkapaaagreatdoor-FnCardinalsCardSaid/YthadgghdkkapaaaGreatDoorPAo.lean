/- A part of a proof: walks of functions and lemmas of our own. No conditions. -/
import Derived.Test.YthadgghdkkapaaaGreatDoorPAl
import Derived.Test.YthadgghdkkapaaaGreatDoorPAm
import Derived.Handy
import Derived.Test.YthadgghdkkapaaaGreatDoorPAi
import Derived.Test.YthadgghdkkapaaaGreatDoorPAn
import Derived.Test.YthadgghdkkapaaaGreatDoorPAj
import Derived.Test.YthadgghdkkapaaaGreatDoorRows
set_option linter.unusedSectionVars false
set_option linter.unusedVariables false
set_option linter.unusedSimpArgs false
set_option maxHeartbeats 1000000

namespace Go.Ab
open Go Go.Proofs
theorem yp0 {α:Type} [Inhabited α] (R:α->α->Prop) (ht:∀ a b c,R a b->R b c->R a c) (l:List α):l.Pairwise R↔∀ j,j+1<l.length->R (l.getD j default) (l.getD (j+1) default):=by
 rw[List.pairwise_iff_getElem];constructor
 ·intro h j hj
  have:=h j (j+1) (by omega) hj (by omega);rw[List.getD_eq_getElem?_getD,List.getD_eq_getElem?_getD,List.getElem?_eq_getElem hj,List.getElem?_eq_getElem (show j<l.length by omega)];exact this
 ·intro h i j hi hj hij
  have h':∀ j (hj:j+1<l.length),R (l[j]'(by omega)) (l[j+1]'hj):=by
   intro j hj;have:=h j hj;rw[List.getD_eq_getElem?_getD,List.getD_eq_getElem?_getD,List.getElem?_eq_getElem hj,List.getElem?_eq_getElem (show j<l.length by omega)]at this;exact this
  obtain⟨d,rfl⟩:∃ d,j=i+1+d:=⟨j-(i+1),by omega⟩
  clear hij
  induction d with
  | zero=>exact h' i hj
  | succ d ih=>exact ht _ _ _ (ih (by omega) h') (h' (i+1+d) hj)
theorem yho {b:Nat->Unit->Except Bool Unit} (p:Nat->Bool) (n:Nat) (r:Bool) (hb:∀ j u,j<n->b j u=bif p j then .error false else .ok ()) :
  (match yh b (n-0) 0 ()with|.error e=>e|.ok _=>r)=true↔(∀ j,j<n->p j=false)/\r=true:=by
 rw[ypd p false (fun j u _ hj=>hb j u (by omega))];simp only[Nat.sub_zero,Nat.zero_add]
 cases h:(List.range n).any fun j=>p j with
 | true=>
  simp only[cond_true];constructor
  ·intro h;cases h
  ·rintro⟨h1,_⟩
   obtain⟨j,hj,hp⟩:=List.any_eq_true.1 h;rw[h1 j (by simpa using hj)]at hp;cases hp
 | false=>
  simp only[cond_false];constructor
  ·intro hr
   refine⟨fun j hj => ?_,hr⟩
   cases hp:p j with
   | false=>rfl
   | true=>exact absurd (List.any_eq_true.2 ⟨j,List.mem_range.2 hj,hp⟩) (by rw[h];simp)
  ·exact fun h=>h.2
theorem yek {α:Type} [Inhabited α] {l:List α} {x:α} {j:Nat} (h:j<l.length):(l++[x]).getD j default=l.getD j default:=by
 rw[List.getD_eq_getElem?_getD,List.getD_eq_getElem?_getD,List.getElem?_append_left h]
theorem yej {α:Type} [Inhabited α] {l:List α} {x:α} {j:Nat} (h:¬ j<l.length) (h2:j<l.length+1):(l++[x]).getD j default=x:=by
 have:j=l.length:=by omega
 subst this;simp
theorem ydr {j n:Nat} (h:j<n):Nat.blt j n=true:=by
 cases hb:Nat.blt j n with
 | true=>rfl
 | false=>rw[<- Bool.not_eq_true,Nat.blt_eq]at hb;exact absurd h hb
theorem yir {j n:Nat} (h:¬ j<n):Nat.blt j n=false:=by
 cases hb:Nat.blt j n with
 | true=>rw[Nat.blt_eq]at hb;exact absurd hb h
 | false=>rfl
end Go.Ab
