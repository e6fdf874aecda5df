/- Walks and lemmas. No conditions. -/
import Derived.Test.YthmfknndfeepfaaGreatDoorEAe
set_option linter.unusedSectionVars false
set_option linter.unusedVariables false
set_option linter.unusedSimpArgs false
namespace Go.Ab
open Go
theorem ydb {ρ σ : Type} {b : Nat -> σ -> Except ρ σ} (I : Nat -> σ -> Prop) : ∀ {k i : Nat} {s : σ}, I i s -> (∀ j u, i <= j -> j < i + k -> I j u -> ∃ v, b j u = .ok v /\ I (j + 1) v) -> ∃ t, ye b k i s = .ok t /\ I (i + k) t
 | 0,i,s,h0,_=>⟨s,rfl,h0⟩
 | k+1,i,s,h0,hs=>by
  obtain⟨v,hv,hI⟩:=hs i s (Nat.le_refl _) (by omega) h0;obtain⟨t,h1,h2⟩:=ydb I (k:=k) hI (fun j u h1 h2=>hs j u (by omega) (by omega));refine⟨t,?_,?_⟩
  ·simp only[ye,hv];exact h1
  ·have e:i+(k+1)=i+1+k:=by omega
   rw[e];exact h2
theorem y4p {α:Type} [Inhabited α] {a b:List α} (hl:a.length=b.length) (h:∀ i,i<a.length->a.getD i default=b.getD i default):a=b:=by
 apply List.ext_getElem hl;intro i h1 h2;have:=h i h1;simpa [List.getD_eq_getElem?_getD,h1,h2]using this
theorem yee {ρ:Type} {b:Nat->Unit->Except ρ Unit} (p:Nat->Bool) (r:ρ):∀ {k i:Nat} {s:Unit},(∀ j u,i<=j->j<i+k->b j u=bif p j then .error r else .ok ()) ->
  ye b k i s=bif (List.range k).any (fun j=>p (i+j))then .error r else .ok ()
 | 0,i,s,_=>rfl
 | k+1,i,s,hb=>by
  have ih:=yee p r (k:=k) (i:=i+1) (s:=()) (fun j u h1 h2=>hb j u (by omega) (by omega));simp only[ye,hb i s (Nat.le_refl _) (by omega)];rw[List.range_succ_eq_map,List.any_cons,List.any_map]
  cases hp:p i with
  | true=>simp[hp]
  | false=>
   simp only[cond_false,Nat.add_zero,hp,Bool.false_or];rw[ih]
   have e:((fun j=>p (i+j)) ∘ Nat.succ)=fun j=>p (i+1+j):=by
    funext j;simp only[Function.comp];congr 1;omega
   rw[e]
theorem yz0 {α:Type} [Inhabited α] [DecidableEq α] (a b:List α) (hl:a.length=b.length):(List.range a.length).any (fun i => !decide (a.getD i default=b.getD i default)) = !decide (a=b):=by
 by_cases h:a=b
 ·subst h;simp
 ·rw[decide_eq_false h]
  simp only[Bool.not_false];rw[List.any_eq_true];refine Classical.byContradiction fun hn=>h (y4p hl fun i hi => ?_)
  refine Classical.byContradiction fun hne=>hn ⟨i,List.mem_range.2 hi,by simp only[decide_eq_false hne,Bool.not_false]⟩
theorem ypf {ρ:Type} {b:Nat->Unit->Except ρ Unit} (p:Nat->Bool) (v:Nat->ρ):∀ {k i:Nat} {s:Unit},(∀ j u,i<=j->j<i+k->b j u=bif p j then .error (v j)else .ok ()) ->
  (∃ j,i<=j/\j<i+k/\p j=true/\(∀ q,i<=q->q<j->p q=false)/\ye b k i s=.error (v j))\/((∀ q,i<=q->q<i+k->p q=false)/\ye b k i s=.ok ())
 | 0,i,s,_=>.inr ⟨by intro q h1 h2;omega,rfl⟩
 | k+1,i,s,hb=>by
  have ih:=ypf p v (k:=k) (i:=i+1) (s:=()) (fun j u h1 h2=>hb j u (by omega) (by omega));simp only[ye,hb i s (Nat.le_refl _) (by omega)]
  cases hp:p i with
  | true=>exact .inl ⟨i,Nat.le_refl _,by omega,hp,by intro q h1 h2;omega,rfl⟩
  | false=>
   simp only[cond_false];rcases ih with⟨j,h1,h2,h3,h4,h5⟩|⟨h1,h2⟩
   ·refine .inl ⟨j,by omega,by omega,h3,fun q hq1 hq2 => ?_,h5⟩
    by_cases hq:q=i
    ·rw[hq];exact hp
    ·exact h4 q (by omega) hq2
   ·refine .inr ⟨fun q hq1 hq2 => ?_,h2⟩
    by_cases hq:q=i
    ·rw[hq];exact hp
    ·exact h1 q (by omega) (by omega)
theorem yzn {α:Type} [Inhabited α] (l:List α) (i:Nat) (h:i<l.length):l.take (i+1)=l.take i++[l.getD i default]:=by
 rw[List.take_add_one,List.getD_eq_getElem?_getD,List.getElem?_eq_getElem h];rfl
end Go.Ab
