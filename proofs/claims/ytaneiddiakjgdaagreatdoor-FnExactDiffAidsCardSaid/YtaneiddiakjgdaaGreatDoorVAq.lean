/- A part of a proof: walks of functions and lemmas of our own. No conditions. -/
import Derived.Test.YtaneiddiakjgdaaGreatDoorVAl
import Derived.Test.YtaneiddiakjgdaaGreatDoorVAi
set_option linter.unusedSectionVars false
set_option linter.unusedVariables false
set_option linter.unusedSimpArgs false
set_option maxHeartbeats 1000000
namespace Go.Ab
open Go Go.Proofs
theorem app_lt {α : Type} [Inhabited α] {l : List α} {x : α} {j : Nat} (h : j < l.length) : (l ++ [x]).getD j default = l.getD j default := by
 rw [List.getD_eq_getElem?_getD, List.getD_eq_getElem?_getD, List.getElem?_append_left h]
theorem app_eq {α : Type} [Inhabited α] {l : List α} {x : α} {j : Nat} (h : ¬ j < l.length) (h2 : j < l.length + 1) : (l ++ [x]).getD j default = x := by
 have : j = l.length := by omega
 subst this
 simp
theorem blt_t {j n : Nat} (h : j < n) : Nat.blt j n = true := by
 cases hb : Nat.blt j n with
 | true => rfl
 | false => rw [← Bool.not_eq_true, Nat.blt_eq] at hb; exact absurd h hb
theorem blt_f {j n : Nat} (h : ¬ j < n) : Nat.blt j n = false := by
 cases hb : Nat.blt j n with
 | true => rw [Nat.blt_eq] at hb; exact absurd hb h
 | false => rfl
end Go.Ab
