/- A part of a proof: walks of functions and lemmas of our own. No conditions. -/
import Derived.Test.YtpakbdamggpneaaGreatDoorTAk
set_option linter.unusedSectionVars false
set_option linter.unusedVariables false
set_option linter.unusedSimpArgs false
namespace Go.Ab
open Go Go.Proofs
theorem spec_l00From_DD : DOk Tryz.prog (DD []) := DD_nil _
def spec_l00From (a0 : (List Int)) : l00Src :=
  { code := a0, at_ := 0, seed := 0 : l00Src }
theorem spec_l00From_den (a0 : (List Int))  : Den Tryz.prog 26 [encL 1 eIu8 a0] (.op (el00Src (spec_l00From a0))) := by
  generalize hR : spec_l00From a0 = r
  unfold spec_l00From at hR
  refine den_intro G_ok Tryz.func26 (by kernel_rfl) rfl Tryz.ntmps26 (by rw [Tryz.results26]) (by simp) rfl ?_
  intro c hL hc hk
  obtain ⟨hL0, _⟩ := hL
  have hw0 : a0.length < 9223372036854775808 := Nat.lt_succ_of_le (lens_encL hL0).1
  clear hL0
  simp only [pars, Nat.zero_add]
  refine AWP.seq ?_
  refine AWP.regS G_ok spec_l00From_DD hc (by kernel_rfl) (fun K hK => ?_); simp only [ea, gv, sv, reduceCtorEq, reduceIte, Nat.reduceBEq, Nat.reduceAdd, Nat.reduceEqDiff, Nat.reduceLT, Nat.reduceLeDiff, Nat.reduceMul, Nat.reduceSub, BEq.rfl, beq_self_eq_true, Int.reduceToNat]
  (refine hK _ ?_)
  clear hK K
  refine AWP.seq ?_
  refine AWP.regS G_ok spec_l00From_DD hc (by kernel_rfl) (fun K hK => ?_); simp only [ea, gv, sv, reduceCtorEq, reduceIte, Nat.reduceBEq, Nat.reduceAdd, Nat.reduceEqDiff, Nat.reduceLT, Nat.reduceLeDiff, Nat.reduceMul, Nat.reduceSub, BEq.rfl, beq_self_eq_true, Int.reduceToNat]
  (refine hK _ ?_)
  clear hK K
  refine AWP.ret ?_
  subst hR
  (simp only [en, si, ea, gv, sv, hk, reduceCtorEq, reduceIte, Nat.reduceBEq, Nat.reduceAdd, Nat.reduceEqDiff, Nat.reduceLT, Nat.reduceLeDiff, Nat.reduceMul, Nat.reduceSub, BEq.rfl, beq_self_eq_true, Int.reduceToNat]; done)
def D_spec_l00From : DF
  | [x0] => some (.op (el00Src (spec_l00From (rdL dIu8 x0))), false, [wL 1 eIu8 dIu8 x0])
  | _ => none
def Dz_spec_l00From : DF
  | [x0] => some (.op (el00Src (spec_l00From (rdL dIu8 x0))), true, [wL 1 eIu8 dIu8 x0])
  | _ => none
theorem D_spec_l00From_ok : OkD Tryz.prog 26 D_spec_l00From := by
  intro xs r z ob h ho
  unfold D_spec_l00From at h
  split at h
  · simp only [Option.some.injEq, Prod.mk.injEq] at h
    obtain ⟨rfl, rfl, rfl⟩ := h
    obtain ⟨h0, _⟩ := ho
    exact Den.sim (spec_l00From_den _ ) (simOL_cons (wL_sim h0).1 <| trivial) (noIdL_cons (wL_sim h0).2 <| rfl) rfl
  · cases h
theorem Dz_spec_l00From_ok : OkD Tryz.prog 26 Dz_spec_l00From := by
  intro xs r z ob h ho
  unfold Dz_spec_l00From at h
  split at h
  · simp only [Option.some.injEq, Prod.mk.injEq] at h
    obtain ⟨rfl, rfl, rfl⟩ := h
    obtain ⟨h0, _⟩ := ho
    exact Den.sim (spec_l00From_den _ ) (simOL_cons (wL_sim h0).1 <| trivial) (noIdL_cons (wL_sim h0).2 <| rfl) rfl
  · cases h
end Go.Ab
