/- A part of a proof: walks of functions and lemmas of our own. No conditions. -/
import Derived.Test.YtadigfcajlefkaaDoorTAj
set_option linter.unusedSectionVars false
set_option linter.unusedVariables false
set_option linter.unusedSimpArgs false
namespace Go.Ab
open Go Go.Proofs
theorem laws_toEntry_DD : DOk Tryd.prog (DD []) := DD_nil _
def laws_toEntry (a0 : Entry) : Entry :=
  { Day := a0.Day, Item := a0.Item, Amount := a0.Amount : Entry }
theorem laws_toEntry_den (a0 : Entry)  : Den Tryd.prog 10 [.agg (eEntry a0)] (.agg (eEntry (laws_toEntry a0))) := by
  generalize hR : laws_toEntry a0 = r
  unfold laws_toEntry at hR
  refine den_intro G_ok Tryd.func10 (by kernel_rfl) rfl Tryd.ntmps10 (by rw [Tryd.results10]) (by simp) rfl ?_
  intro c hL hc hk
  obtain ⟨hL0, _⟩ := hL
  have hw0 : bwEntry a0 := Entry_lens a0 hL0
  clear hL0
  simp only [pars, Nat.zero_add]
  refine AWP.seq ?_
  refine AWP.regS G_ok laws_toEntry_DD hc (by kernel_rfl) (fun K hK => ?_); simp only [ea, gv, sv, reduceCtorEq, reduceIte, Nat.reduceBEq, Nat.reduceAdd, Nat.reduceEqDiff, Nat.reduceLT, Nat.reduceLeDiff, Nat.reduceMul, Nat.reduceSub, BEq.rfl, beq_self_eq_true, Int.reduceToNat]
  (refine hK _ ?_)
  clear hK K
  refine AWP.seq ?_
  refine AWP.regS G_ok laws_toEntry_DD hc (by kernel_rfl) (fun K hK => ?_); simp only [ea, gv, sv, reduceCtorEq, reduceIte, Nat.reduceBEq, Nat.reduceAdd, Nat.reduceEqDiff, Nat.reduceLT, Nat.reduceLeDiff, Nat.reduceMul, Nat.reduceSub, BEq.rfl, beq_self_eq_true, Int.reduceToNat]
  (refine hK _ ?_)
  clear hK K
  refine AWP.seq ?_
  refine AWP.regS G_ok laws_toEntry_DD hc (by kernel_rfl) (fun K hK => ?_); simp only [ea, gv, sv, reduceCtorEq, reduceIte, Nat.reduceBEq, Nat.reduceAdd, Nat.reduceEqDiff, Nat.reduceLT, Nat.reduceLeDiff, Nat.reduceMul, Nat.reduceSub, BEq.rfl, beq_self_eq_true, Int.reduceToNat]
  (refine hK _ ?_)
  clear hK K
  refine AWP.seq ?_
  refine AWP.regS G_ok laws_toEntry_DD hc (by kernel_rfl) (fun K hK => ?_); simp only [ea, gv, sv, reduceCtorEq, reduceIte, Nat.reduceBEq, Nat.reduceAdd, Nat.reduceEqDiff, Nat.reduceLT, Nat.reduceLeDiff, Nat.reduceMul, Nat.reduceSub, BEq.rfl, beq_self_eq_true, Int.reduceToNat]
  (refine hK _ ?_)
  clear hK K
  refine AWP.seq ?_
  refine AWP.regS G_ok laws_toEntry_DD hc (by kernel_rfl) (fun K hK => ?_); simp only [ea, gv, sv, reduceCtorEq, reduceIte, Nat.reduceBEq, Nat.reduceAdd, Nat.reduceEqDiff, Nat.reduceLT, Nat.reduceLeDiff, Nat.reduceMul, Nat.reduceSub, BEq.rfl, beq_self_eq_true, Int.reduceToNat]
  (refine hK _ ?_)
  clear hK K
  refine AWP.seq ?_
  refine AWP.regS G_ok laws_toEntry_DD hc (by kernel_rfl) (fun K hK => ?_); simp only [ea, gv, sv, reduceCtorEq, reduceIte, Nat.reduceBEq, Nat.reduceAdd, Nat.reduceEqDiff, Nat.reduceLT, Nat.reduceLeDiff, Nat.reduceMul, Nat.reduceSub, BEq.rfl, beq_self_eq_true, Int.reduceToNat]
  (refine hK _ ?_)
  clear hK K
  refine AWP.ret ?_
  subst hR
  (simp only [en, si, ea, gv, sv, hk, reduceCtorEq, reduceIte, Nat.reduceBEq, Nat.reduceAdd, Nat.reduceEqDiff, Nat.reduceLT, Nat.reduceLeDiff, Nat.reduceMul, Nat.reduceSub, BEq.rfl, beq_self_eq_true, Int.reduceToNat]; done)
def D_laws_toEntry : DF
  | [x0] => some (.agg (eEntry (laws_toEntry (rdG dEntry x0))), false, [wG eEntry dEntry x0])
  | _ => none
theorem D_laws_toEntry_ok : OkD Tryd.prog 10 D_laws_toEntry := by
  intro xs r z ob h ho
  unfold D_laws_toEntry at h
  split at h
  · simp only [Option.some.injEq, Prod.mk.injEq] at h
    obtain ⟨rfl, rfl, rfl⟩ := h
    obtain ⟨h0, _⟩ := ho
    exact Den.sim (laws_toEntry_den _ ) (simOL_cons (wG_sim h0).1 <| trivial) (noIdL_cons (wG_sim h0).2 <| rfl) rfl
  · cases h
end Go.Ab
