/- A part of a proof: walks of functions and lemmas of our own. No conditions. -/
import Derived.Test.YtapfmnafakdhmaaTAi
import Derived.Test.YtapfmnafakdhmaaTAj
import Derived.Test.YtapfmnafakdhmaaTAk
import Derived.Deep.Slices
import Derived.Deep.Strs
import Derived.Lib.SmallJoins
import Derived.Test.YtapfmnafakdhmaaRows
set_option linter.unusedVariables false
set_option linter.unusedSimpArgs false
namespace Go.Ab
open Go Go.Proofs
theorem laws_FnExactRepairFault_DD : DOk Try.prog (DD [(14, dP D_laws_szFaultS), (16, dP D_laws_toFaultS), (18, dP D_laws_eqFaultS), (38, dP D_spec_RepairFault), (39, dP D_impl_RepairFault), (40, dM [true, false] D_laws_markFaultS), (41, dP D_laws_heldFaultS)]) := DD_cons D_laws_szFaultS_ok.e <| DD_cons D_laws_toFaultS_ok.e <| DD_cons D_laws_eqFaultS_ok.e <| DD_cons D_spec_RepairFault_ok.e <| DD_cons D_impl_RepairFault_ok.e <| DD_cons D_laws_markFaultS_ok.e <| DD_cons D_laws_heldFaultS_ok.e <| DD_nil _
def laws_FnExactRepairFault (a0 : (List Fault)) (a1 : Int) (a2 : Int) (a3 : Int) : Bool :=
  (bif decide ((laws_szFaultS a0 1048576) < 0) then true else (bif ((!(laws_eqFaultS ((impl_RepairFault (laws_toFaultS a0) a1 a2 a3).1) ((spec_RepairFault (laws_toFaultS a0) a1 a2 a3).1))) || (((impl_RepairFault (laws_toFaultS a0) a1 a2 a3).2) != ((spec_RepairFault (laws_toFaultS a0) a1 a2 a3).2))) then false else (bif (!(laws_eqFaultS (laws_toFaultS a0) (laws_toFaultS a0))) then false else (bif ((decide (((laws_markFaultS (laws_toFaultS a0) 1).1) < 0) || (!(laws_eqFaultS ((impl_RepairFault (laws_toFaultS a0) a1 a2 a3).1) ((spec_RepairFault (laws_toFaultS a0) a1 a2 a3).1)))) || (((impl_RepairFault (laws_toFaultS a0) a1 a2 a3).2) != ((spec_RepairFault (laws_toFaultS a0) a1 a2 a3).2))) then false else (bif decide ((laws_heldFaultS ((laws_markFaultS ((impl_RepairFault (laws_toFaultS a0) a1 a2 a3).1) 1).2) 1) < 0) then false else (bif ((laws_heldFaultS ((laws_markFaultS ((impl_RepairFault (laws_toFaultS a0) a1 a2 a3).1) 1).2) 1) != ((laws_markFaultS ((impl_RepairFault (laws_toFaultS a0) a1 a2 a3).1) 1).1)) then false else true))))))

theorem laws_FnExactRepairFault_den (a0 : (List Fault)) (a1 : Int) (a2 : Int) (a3 : Int) (hb0 : a0.length < 9223372036854775808) : Den Try.prog 8 [encL 4 eFault a0, .int .i64 a1, .int .i64 a2, .int .i64 a3] (.bool (laws_FnExactRepairFault a0 a1 a2 a3)) := by
  generalize hR : laws_FnExactRepairFault a0 a1 a2 a3 = r
  unfold laws_FnExactRepairFault at hR
  refine den_intro G_ok Try.func8 (by kernel_rfl) rfl Try.ntmps8 (by rw [Try.results8]) (by simp) rfl ?_
  intro c hc hk
  simp only [pars, Nat.zero_add]
  have hf0 := laws_szFaultS_facts a0 (1048576) (by omega) (by omega) hb0
  refine AWP.seq ?_
  refine AWP.regS G_ok laws_FnExactRepairFault_DD hc (by kernel_rfl) (fun K hK => ?_); simp only [ea, absV, absVL, gv, sv, laws_markFaultS_sub, D_laws_szFaultS, D_laws_toFaultS, D_laws_eqFaultS, D_spec_RepairFault, D_impl_RepairFault, D_laws_markFaultS, D_laws_heldFaultS, reduceCtorEq, reduceIte, Nat.reduceBEq, Nat.reduceAdd, Nat.reduceEqDiff, Nat.reduceLT, Nat.reduceLeDiff, Nat.reduceMul, Nat.reduceSub, BEq.rfl, beq_self_eq_true, Int.reduceToNat]
  first | refine hK _ ?_ | refine ⟨by (first | trivial | omega | (simp only [ob, ln, bdv, laws_toFaultS_id, sv] at *; omega) | ((try clear hK K); (repeat' first | apply And.intro | intro _) <;> first | trivial | omega | assumption | solve_by_elim | (apply bd_getD <;> first | assumption | decide) | (apply bd_subL <;> first | assumption | decide) | (simp only [ob, ln, bdv, laws_toFaultS_id, sv] at *; first | omega | assumption | (simp_all; done) | grind [spec_RepairFault_len, impl_RepairFault_len, laws_markFaultS_len]))), hK _ ?_⟩
  clear hK K
  refine AWP.seq ?_
  refine AWP.regS G_ok laws_FnExactRepairFault_DD hc (by kernel_rfl) (fun K hK => ?_); simp only [ea, absV, absVL, gv, sv, laws_markFaultS_sub, D_laws_szFaultS, D_laws_toFaultS, D_laws_eqFaultS, D_spec_RepairFault, D_impl_RepairFault, D_laws_markFaultS, D_laws_heldFaultS, reduceCtorEq, reduceIte, Nat.reduceBEq, Nat.reduceAdd, Nat.reduceEqDiff, Nat.reduceLT, Nat.reduceLeDiff, Nat.reduceMul, Nat.reduceSub, BEq.rfl, beq_self_eq_true, Int.reduceToNat]
  first | refine hK _ ?_ | refine ⟨by (first | trivial | omega | (simp only [ob, ln, bdv, laws_toFaultS_id, sv] at *; omega) | ((try clear hK K); (repeat' first | apply And.intro | intro _) <;> first | trivial | omega | assumption | solve_by_elim | (apply bd_getD <;> first | assumption | decide) | (apply bd_subL <;> first | assumption | decide) | (simp only [ob, ln, bdv, laws_toFaultS_id, sv] at *; first | omega | assumption | (simp_all; done) | grind [spec_RepairFault_len, impl_RepairFault_len, laws_markFaultS_len]))), hK _ ?_⟩
  clear hK K
  refine AWP.seq ?_
  refine AWP.regS G_ok laws_FnExactRepairFault_DD hc (by kernel_rfl) (fun K hK => ?_); simp only [ea, absV, absVL, gv, sv, laws_markFaultS_sub, D_laws_szFaultS, D_laws_toFaultS, D_laws_eqFaultS, D_spec_RepairFault, D_impl_RepairFault, D_laws_markFaultS, D_laws_heldFaultS, reduceCtorEq, reduceIte, Nat.reduceBEq, Nat.reduceAdd, Nat.reduceEqDiff, Nat.reduceLT, Nat.reduceLeDiff, Nat.reduceMul, Nat.reduceSub, BEq.rfl, beq_self_eq_true, Int.reduceToNat]
  first | refine hK _ ?_ | refine ⟨by (first | trivial | omega | (simp only [ob, ln, bdv, laws_toFaultS_id, sv] at *; omega) | ((try clear hK K); (repeat' first | apply And.intro | intro _) <;> first | trivial | omega | assumption | solve_by_elim | (apply bd_getD <;> first | assumption | decide) | (apply bd_subL <;> first | assumption | decide) | (simp only [ob, ln, bdv, laws_toFaultS_id, sv] at *; first | omega | assumption | (simp_all; done) | grind [spec_RepairFault_len, impl_RepairFault_len, laws_markFaultS_len]))), hK _ ?_⟩
  clear hK K
  refine AWP.seq ?_
  refine AWP.seq ?_
  refine AWP.regS G_ok laws_FnExactRepairFault_DD hc (by kernel_rfl) (fun K hK => ?_); simp only [ea, absV, absVL, gv, sv, laws_markFaultS_sub, D_laws_szFaultS, D_laws_toFaultS, D_laws_eqFaultS, D_spec_RepairFault, D_impl_RepairFault, D_laws_markFaultS, D_laws_heldFaultS, reduceCtorEq, reduceIte, Nat.reduceBEq, Nat.reduceAdd, Nat.reduceEqDiff, Nat.reduceLT, Nat.reduceLeDiff, Nat.reduceMul, Nat.reduceSub, BEq.rfl, beq_self_eq_true, Int.reduceToNat]
  first | refine hK _ ?_ | refine ⟨by (first | trivial | omega | (simp only [ob, ln, bdv, laws_toFaultS_id, sv] at *; omega) | ((try clear hK K); (repeat' first | apply And.intro | intro _) <;> first | trivial | omega | assumption | solve_by_elim | (apply bd_getD <;> first | assumption | decide) | (apply bd_subL <;> first | assumption | decide) | (simp only [ob, ln, bdv, laws_toFaultS_id, sv] at *; first | omega | assumption | (simp_all; done) | grind [spec_RepairFault_len, impl_RepairFault_len, laws_markFaultS_len]))), hK _ ?_⟩
  clear hK K
  refine AWP.cond rfl (fun hb => ?_) (fun hb => ?_)
  · first | simp only [hb, cond_true] at hR | (simp only [*] at hb; simp only [hb, cond_true] at hR)
    refine AWP.seq ?_
    refine AWP.regS G_ok laws_FnExactRepairFault_DD hc (by kernel_rfl) (fun K hK => ?_); simp only [ea, absV, absVL, gv, sv, laws_markFaultS_sub, D_laws_szFaultS, D_laws_toFaultS, D_laws_eqFaultS, D_spec_RepairFault, D_impl_RepairFault, D_laws_markFaultS, D_laws_heldFaultS, reduceCtorEq, reduceIte, Nat.reduceBEq, Nat.reduceAdd, Nat.reduceEqDiff, Nat.reduceLT, Nat.reduceLeDiff, Nat.reduceMul, Nat.reduceSub, BEq.rfl, beq_self_eq_true, Int.reduceToNat]
    first | refine hK _ ?_ | refine ⟨by (first | trivial | omega | (simp only [ob, ln, bdv, laws_toFaultS_id, sv] at *; omega) | ((try clear hK K); (repeat' first | apply And.intro | intro _) <;> first | trivial | omega | assumption | solve_by_elim | (apply bd_getD <;> first | assumption | decide) | (apply bd_subL <;> first | assumption | decide) | (simp only [ob, ln, bdv, laws_toFaultS_id, sv] at *; first | omega | assumption | (simp_all; done) | grind [spec_RepairFault_len, impl_RepairFault_len, laws_markFaultS_len]))), hK _ ?_⟩
    clear hK K
    refine AWP.ret ?_
    subst hR
    (simp only [en, si, ea, gv, sv, hk, reduceCtorEq, reduceIte, Nat.reduceBEq, Nat.reduceAdd, Nat.reduceEqDiff, Nat.reduceLT, Nat.reduceLeDiff, Nat.reduceMul, Nat.reduceSub, BEq.rfl, beq_self_eq_true, Int.reduceToNat]; first | done | trivial | (and_intros <;> first | rfl | trivial | omega | (rw [IntKind.wrap_i64]; omega) | (simp only [ln]; done) | (simp only [ob, ln, bdv, laws_toFaultS_id, sv] at *; first | omega | grind [spec_RepairFault_len, impl_RepairFault_len, laws_markFaultS_len]) | (left; intro j hj; simp only [pw, Bool.cond_eq_ite, Bool.and_eq_true, decide_eq_true_eq]; (repeat' split) <;> simp [putL, NoBorL, NoBor]) | (intro j hj; simp only [pw, Bool.cond_eq_ite, Bool.and_eq_true, decide_eq_true_eq]; (try rw [subL_getD _ _ _ _ (by first | assumption | omega)]); (try rw [clearL_getD _ _ _ _ (by first | omega | (simp only [ob, ln, bdv] at *; omega))]); (repeat' split) <;> first | rfl | omega | exact simOL_refl _ | (simp_all; done) | (simp_all; rfl) | (simp_all; omega) | (simp_all; exact simOL_refl _) | (simp [putL, NoBorL, NoBor]; done))))
  · first | simp only [hb, cond_false] at hR | (simp only [*] at hb; simp only [hb, cond_false] at hR)
    refine AWP.skip ?_
    refine AWP.seq ?_
    refine AWP.regS G_ok laws_FnExactRepairFault_DD hc (by kernel_rfl) (fun K hK => ?_); simp only [ea, absV, absVL, gv, sv, laws_markFaultS_sub, D_laws_szFaultS, D_laws_toFaultS, D_laws_eqFaultS, D_spec_RepairFault, D_impl_RepairFault, D_laws_markFaultS, D_laws_heldFaultS, reduceCtorEq, reduceIte, Nat.reduceBEq, Nat.reduceAdd, Nat.reduceEqDiff, Nat.reduceLT, Nat.reduceLeDiff, Nat.reduceMul, Nat.reduceSub, BEq.rfl, beq_self_eq_true, Int.reduceToNat]
    first | refine hK _ ?_ | refine ⟨by (first | trivial | omega | (simp only [ob, ln, bdv, laws_toFaultS_id, sv] at *; omega) | ((try clear hK K); (repeat' first | apply And.intro | intro _) <;> first | trivial | omega | assumption | solve_by_elim | (apply bd_getD <;> first | assumption | decide) | (apply bd_subL <;> first | assumption | decide) | (simp only [ob, ln, bdv, laws_toFaultS_id, sv] at *; first | omega | assumption | (simp_all; done) | grind [spec_RepairFault_len, impl_RepairFault_len, laws_markFaultS_len]))), hK _ ?_⟩
    clear hK K
    refine AWP.seq ?_
    refine AWP.regS G_ok laws_FnExactRepairFault_DD hc (by kernel_rfl) (fun K hK => ?_); simp only [ea, absV, absVL, gv, sv, laws_markFaultS_sub, D_laws_szFaultS, D_laws_toFaultS, D_laws_eqFaultS, D_spec_RepairFault, D_impl_RepairFault, D_laws_markFaultS, D_laws_heldFaultS, reduceCtorEq, reduceIte, Nat.reduceBEq, Nat.reduceAdd, Nat.reduceEqDiff, Nat.reduceLT, Nat.reduceLeDiff, Nat.reduceMul, Nat.reduceSub, BEq.rfl, beq_self_eq_true, Int.reduceToNat]
    first | refine hK _ ?_ | refine ⟨by (first | trivial | omega | (simp only [ob, ln, bdv, laws_toFaultS_id, sv] at *; omega) | ((try clear hK K); (repeat' first | apply And.intro | intro _) <;> first | trivial | omega | assumption | solve_by_elim | (apply bd_getD <;> first | assumption | decide) | (apply bd_subL <;> first | assumption | decide) | (simp only [ob, ln, bdv, laws_toFaultS_id, sv] at *; first | omega | assumption | (simp_all; done) | grind [spec_RepairFault_len, impl_RepairFault_len, laws_markFaultS_len]))), hK _ ?_⟩
    clear hK K
    refine AWP.seq ?_
    refine AWP.regS G_ok laws_FnExactRepairFault_DD hc (by kernel_rfl) (fun K hK => ?_); simp only [ea, absV, absVL, gv, sv, laws_markFaultS_sub, D_laws_szFaultS, D_laws_toFaultS, D_laws_eqFaultS, D_spec_RepairFault, D_impl_RepairFault, D_laws_markFaultS, D_laws_heldFaultS, reduceCtorEq, reduceIte, Nat.reduceBEq, Nat.reduceAdd, Nat.reduceEqDiff, Nat.reduceLT, Nat.reduceLeDiff, Nat.reduceMul, Nat.reduceSub, BEq.rfl, beq_self_eq_true, Int.reduceToNat]
    first | refine hK _ ?_ | refine ⟨by (first | trivial | omega | (simp only [ob, ln, bdv, laws_toFaultS_id, sv] at *; omega) | ((try clear hK K); (repeat' first | apply And.intro | intro _) <;> first | trivial | omega | assumption | solve_by_elim | (apply bd_getD <;> first | assumption | decide) | (apply bd_subL <;> first | assumption | decide) | (simp only [ob, ln, bdv, laws_toFaultS_id, sv] at *; first | omega | assumption | (simp_all; done) | grind [spec_RepairFault_len, impl_RepairFault_len, laws_markFaultS_len]))), hK _ ?_⟩
    clear hK K
    refine AWP.seq ?_
    refine AWP.seq ?_
    refine AWP.regS G_ok laws_FnExactRepairFault_DD hc (by kernel_rfl) (fun K hK => ?_); simp only [ea, absV, absVL, gv, sv, laws_markFaultS_sub, D_laws_szFaultS, D_laws_toFaultS, D_laws_eqFaultS, D_spec_RepairFault, D_impl_RepairFault, D_laws_markFaultS, D_laws_heldFaultS, reduceCtorEq, reduceIte, Nat.reduceBEq, Nat.reduceAdd, Nat.reduceEqDiff, Nat.reduceLT, Nat.reduceLeDiff, Nat.reduceMul, Nat.reduceSub, BEq.rfl, beq_self_eq_true, Int.reduceToNat]
    first | refine hK _ ?_ | refine ⟨by (first | trivial | omega | (simp only [ob, ln, bdv, laws_toFaultS_id, sv] at *; omega) | ((try clear hK K); (repeat' first | apply And.intro | intro _) <;> first | trivial | omega | assumption | solve_by_elim | (apply bd_getD <;> first | assumption | decide) | (apply bd_subL <;> first | assumption | decide) | (simp only [ob, ln, bdv, laws_toFaultS_id, sv] at *; first | omega | assumption | (simp_all; done) | grind [spec_RepairFault_len, impl_RepairFault_len, laws_markFaultS_len]))), hK _ ?_⟩
    clear hK K
    refine AWP.cond rfl (fun hb => ?_) (fun hb => ?_)
    · first | simp only [hb, cond_true] at hR | (simp only [*] at hb; simp only [hb, cond_true] at hR)
      refine AWP.seq ?_
      refine AWP.regS G_ok laws_FnExactRepairFault_DD hc (by kernel_rfl) (fun K hK => ?_); simp only [ea, absV, absVL, gv, sv, laws_markFaultS_sub, D_laws_szFaultS, D_laws_toFaultS, D_laws_eqFaultS, D_spec_RepairFault, D_impl_RepairFault, D_laws_markFaultS, D_laws_heldFaultS, reduceCtorEq, reduceIte, Nat.reduceBEq, Nat.reduceAdd, Nat.reduceEqDiff, Nat.reduceLT, Nat.reduceLeDiff, Nat.reduceMul, Nat.reduceSub, BEq.rfl, beq_self_eq_true, Int.reduceToNat]
      first | refine hK _ ?_ | refine ⟨by (first | trivial | omega | (simp only [ob, ln, bdv, laws_toFaultS_id, sv] at *; omega) | ((try clear hK K); (repeat' first | apply And.intro | intro _) <;> first | trivial | omega | assumption | solve_by_elim | (apply bd_getD <;> first | assumption | decide) | (apply bd_subL <;> first | assumption | decide) | (simp only [ob, ln, bdv, laws_toFaultS_id, sv] at *; first | omega | assumption | (simp_all; done) | grind [spec_RepairFault_len, impl_RepairFault_len, laws_markFaultS_len]))), hK _ ?_⟩
      clear hK K
      refine AWP.ret ?_
      subst hR
      (simp only [en, si, ea, gv, sv, hk, reduceCtorEq, reduceIte, Nat.reduceBEq, Nat.reduceAdd, Nat.reduceEqDiff, Nat.reduceLT, Nat.reduceLeDiff, Nat.reduceMul, Nat.reduceSub, BEq.rfl, beq_self_eq_true, Int.reduceToNat]; first | done | trivial | (and_intros <;> first | rfl | trivial | omega | (rw [IntKind.wrap_i64]; omega) | (simp only [ln]; done) | (simp only [ob, ln, bdv, laws_toFaultS_id, sv] at *; first | omega | grind [spec_RepairFault_len, impl_RepairFault_len, laws_markFaultS_len]) | (left; intro j hj; simp only [pw, Bool.cond_eq_ite, Bool.and_eq_true, decide_eq_true_eq]; (repeat' split) <;> simp [putL, NoBorL, NoBor]) | (intro j hj; simp only [pw, Bool.cond_eq_ite, Bool.and_eq_true, decide_eq_true_eq]; (try rw [subL_getD _ _ _ _ (by first | assumption | omega)]); (try rw [clearL_getD _ _ _ _ (by first | omega | (simp only [ob, ln, bdv] at *; omega))]); (repeat' split) <;> first | rfl | omega | exact simOL_refl _ | (simp_all; done) | (simp_all; rfl) | (simp_all; omega) | (simp_all; exact simOL_refl _) | (simp [putL, NoBorL, NoBor]; done))))
    · first | simp only [hb, cond_false] at hR | (simp only [*] at hb; simp only [hb, cond_false] at hR)
      refine AWP.skip ?_
      refine AWP.seq ?_
      refine AWP.seq ?_
      refine AWP.regS G_ok laws_FnExactRepairFault_DD hc (by kernel_rfl) (fun K hK => ?_); simp only [ea, absV, absVL, gv, sv, laws_markFaultS_sub, D_laws_szFaultS, D_laws_toFaultS, D_laws_eqFaultS, D_spec_RepairFault, D_impl_RepairFault, D_laws_markFaultS, D_laws_heldFaultS, reduceCtorEq, reduceIte, Nat.reduceBEq, Nat.reduceAdd, Nat.reduceEqDiff, Nat.reduceLT, Nat.reduceLeDiff, Nat.reduceMul, Nat.reduceSub, BEq.rfl, beq_self_eq_true, Int.reduceToNat]
      first | refine hK _ ?_ | refine ⟨by (first | trivial | omega | (simp only [ob, ln, bdv, laws_toFaultS_id, sv] at *; omega) | ((try clear hK K); (repeat' first | apply And.intro | intro _) <;> first | trivial | omega | assumption | solve_by_elim | (apply bd_getD <;> first | assumption | decide) | (apply bd_subL <;> first | assumption | decide) | (simp only [ob, ln, bdv, laws_toFaultS_id, sv] at *; first | omega | assumption | (simp_all; done) | grind [spec_RepairFault_len, impl_RepairFault_len, laws_markFaultS_len]))), hK _ ?_⟩
      clear hK K
      refine AWP.cond rfl (fun hb => ?_) (fun hb => ?_)
      · first | simp only [hb, cond_true] at hR | (simp only [*] at hb; simp only [hb, cond_true] at hR)
        refine AWP.seq ?_
        refine AWP.regS G_ok laws_FnExactRepairFault_DD hc (by kernel_rfl) (fun K hK => ?_); simp only [ea, absV, absVL, gv, sv, laws_markFaultS_sub, D_laws_szFaultS, D_laws_toFaultS, D_laws_eqFaultS, D_spec_RepairFault, D_impl_RepairFault, D_laws_markFaultS, D_laws_heldFaultS, reduceCtorEq, reduceIte, Nat.reduceBEq, Nat.reduceAdd, Nat.reduceEqDiff, Nat.reduceLT, Nat.reduceLeDiff, Nat.reduceMul, Nat.reduceSub, BEq.rfl, beq_self_eq_true, Int.reduceToNat]
        first | refine hK _ ?_ | refine ⟨by (first | trivial | omega | (simp only [ob, ln, bdv, laws_toFaultS_id, sv] at *; omega) | ((try clear hK K); (repeat' first | apply And.intro | intro _) <;> first | trivial | omega | assumption | solve_by_elim | (apply bd_getD <;> first | assumption | decide) | (apply bd_subL <;> first | assumption | decide) | (simp only [ob, ln, bdv, laws_toFaultS_id, sv] at *; first | omega | assumption | (simp_all; done) | grind [spec_RepairFault_len, impl_RepairFault_len, laws_markFaultS_len]))), hK _ ?_⟩
        clear hK K
        refine AWP.ret ?_
        subst hR
        (simp only [en, si, ea, gv, sv, hk, reduceCtorEq, reduceIte, Nat.reduceBEq, Nat.reduceAdd, Nat.reduceEqDiff, Nat.reduceLT, Nat.reduceLeDiff, Nat.reduceMul, Nat.reduceSub, BEq.rfl, beq_self_eq_true, Int.reduceToNat]; first | done | trivial | (and_intros <;> first | rfl | trivial | omega | (rw [IntKind.wrap_i64]; omega) | (simp only [ln]; done) | (simp only [ob, ln, bdv, laws_toFaultS_id, sv] at *; first | omega | grind [spec_RepairFault_len, impl_RepairFault_len, laws_markFaultS_len]) | (left; intro j hj; simp only [pw, Bool.cond_eq_ite, Bool.and_eq_true, decide_eq_true_eq]; (repeat' split) <;> simp [putL, NoBorL, NoBor]) | (intro j hj; simp only [pw, Bool.cond_eq_ite, Bool.and_eq_true, decide_eq_true_eq]; (try rw [subL_getD _ _ _ _ (by first | assumption | omega)]); (try rw [clearL_getD _ _ _ _ (by first | omega | (simp only [ob, ln, bdv] at *; omega))]); (repeat' split) <;> first | rfl | omega | exact simOL_refl _ | (simp_all; done) | (simp_all; rfl) | (simp_all; omega) | (simp_all; exact simOL_refl _) | (simp [putL, NoBorL, NoBor]; done))))
      · first | simp only [hb, cond_false] at hR | (simp only [*] at hb; simp only [hb, cond_false] at hR)
        refine AWP.skip ?_
        refine AWP.seq ?_
        refine AWP.regS G_ok laws_FnExactRepairFault_DD hc (by kernel_rfl) (fun K hK => ?_); simp only [ea, absV, absVL, gv, sv, laws_markFaultS_sub, D_laws_szFaultS, D_laws_toFaultS, D_laws_eqFaultS, D_spec_RepairFault, D_impl_RepairFault, D_laws_markFaultS, D_laws_heldFaultS, reduceCtorEq, reduceIte, Nat.reduceBEq, Nat.reduceAdd, Nat.reduceEqDiff, Nat.reduceLT, Nat.reduceLeDiff, Nat.reduceMul, Nat.reduceSub, BEq.rfl, beq_self_eq_true, Int.reduceToNat]
        first | refine hK _ ?_ | refine ⟨by (first | trivial | omega | (simp only [ob, ln, bdv, laws_toFaultS_id, sv] at *; omega) | ((try clear hK K); (repeat' first | apply And.intro | intro _) <;> first | trivial | omega | assumption | solve_by_elim | (apply bd_getD <;> first | assumption | decide) | (apply bd_subL <;> first | assumption | decide) | (simp only [ob, ln, bdv, laws_toFaultS_id, sv] at *; first | omega | assumption | (simp_all; done) | grind [spec_RepairFault_len, impl_RepairFault_len, laws_markFaultS_len]))), hK _ ?_⟩
        clear hK K
        refine AWP.seq ?_
        refine AWP.regS G_ok laws_FnExactRepairFault_DD hc (by kernel_rfl) (fun K hK => ?_); simp only [ea, absV, absVL, gv, sv, laws_markFaultS_sub, D_laws_szFaultS, D_laws_toFaultS, D_laws_eqFaultS, D_spec_RepairFault, D_impl_RepairFault, D_laws_markFaultS, D_laws_heldFaultS, reduceCtorEq, reduceIte, Nat.reduceBEq, Nat.reduceAdd, Nat.reduceEqDiff, Nat.reduceLT, Nat.reduceLeDiff, Nat.reduceMul, Nat.reduceSub, BEq.rfl, beq_self_eq_true, Int.reduceToNat]
        first | refine hK _ ?_ | refine ⟨by (first | trivial | omega | (simp only [ob, ln, bdv, laws_toFaultS_id, sv] at *; omega) | ((try clear hK K); (repeat' first | apply And.intro | intro _) <;> first | trivial | omega | assumption | solve_by_elim | (apply bd_getD <;> first | assumption | decide) | (apply bd_subL <;> first | assumption | decide) | (simp only [ob, ln, bdv, laws_toFaultS_id, sv] at *; first | omega | assumption | (simp_all; done) | grind [spec_RepairFault_len, impl_RepairFault_len, laws_markFaultS_len]))), hK _ ?_⟩
        clear hK K
        refine AWP.seq ?_
        refine AWP.seq ?_
        refine AWP.regS G_ok laws_FnExactRepairFault_DD hc (by kernel_rfl) (fun K hK => ?_); simp only [ea, absV, absVL, gv, sv, laws_markFaultS_sub, D_laws_szFaultS, D_laws_toFaultS, D_laws_eqFaultS, D_spec_RepairFault, D_impl_RepairFault, D_laws_markFaultS, D_laws_heldFaultS, reduceCtorEq, reduceIte, Nat.reduceBEq, Nat.reduceAdd, Nat.reduceEqDiff, Nat.reduceLT, Nat.reduceLeDiff, Nat.reduceMul, Nat.reduceSub, BEq.rfl, beq_self_eq_true, Int.reduceToNat]
        first | refine hK _ ?_ | refine ⟨by (first | trivial | omega | (simp only [ob, ln, bdv, laws_toFaultS_id, sv] at *; omega) | ((try clear hK K); (repeat' first | apply And.intro | intro _) <;> first | trivial | omega | assumption | solve_by_elim | (apply bd_getD <;> first | assumption | decide) | (apply bd_subL <;> first | assumption | decide) | (simp only [ob, ln, bdv, laws_toFaultS_id, sv] at *; first | omega | assumption | (simp_all; done) | grind [spec_RepairFault_len, impl_RepairFault_len, laws_markFaultS_len]))), hK _ ?_⟩
        clear hK K
        refine AWP.cond rfl (fun hb => ?_) (fun hb => ?_)
        · first | simp only [hb, cond_true] at hR | (simp only [*] at hb; simp only [hb, cond_true] at hR)
          refine AWP.seq ?_
          refine AWP.regS G_ok laws_FnExactRepairFault_DD hc (by kernel_rfl) (fun K hK => ?_); simp only [ea, absV, absVL, gv, sv, laws_markFaultS_sub, D_laws_szFaultS, D_laws_toFaultS, D_laws_eqFaultS, D_spec_RepairFault, D_impl_RepairFault, D_laws_markFaultS, D_laws_heldFaultS, reduceCtorEq, reduceIte, Nat.reduceBEq, Nat.reduceAdd, Nat.reduceEqDiff, Nat.reduceLT, Nat.reduceLeDiff, Nat.reduceMul, Nat.reduceSub, BEq.rfl, beq_self_eq_true, Int.reduceToNat]
          first | refine hK _ ?_ | refine ⟨by (first | trivial | omega | (simp only [ob, ln, bdv, laws_toFaultS_id, sv] at *; omega) | ((try clear hK K); (repeat' first | apply And.intro | intro _) <;> first | trivial | omega | assumption | solve_by_elim | (apply bd_getD <;> first | assumption | decide) | (apply bd_subL <;> first | assumption | decide) | (simp only [ob, ln, bdv, laws_toFaultS_id, sv] at *; first | omega | assumption | (simp_all; done) | grind [spec_RepairFault_len, impl_RepairFault_len, laws_markFaultS_len]))), hK _ ?_⟩
          clear hK K
          refine AWP.ret ?_
          subst hR
          (simp only [en, si, ea, gv, sv, hk, reduceCtorEq, reduceIte, Nat.reduceBEq, Nat.reduceAdd, Nat.reduceEqDiff, Nat.reduceLT, Nat.reduceLeDiff, Nat.reduceMul, Nat.reduceSub, BEq.rfl, beq_self_eq_true, Int.reduceToNat]; first | done | trivial | (and_intros <;> first | rfl | trivial | omega | (rw [IntKind.wrap_i64]; omega) | (simp only [ln]; done) | (simp only [ob, ln, bdv, laws_toFaultS_id, sv] at *; first | omega | grind [spec_RepairFault_len, impl_RepairFault_len, laws_markFaultS_len]) | (left; intro j hj; simp only [pw, Bool.cond_eq_ite, Bool.and_eq_true, decide_eq_true_eq]; (repeat' split) <;> simp [putL, NoBorL, NoBor]) | (intro j hj; simp only [pw, Bool.cond_eq_ite, Bool.and_eq_true, decide_eq_true_eq]; (try rw [subL_getD _ _ _ _ (by first | assumption | omega)]); (try rw [clearL_getD _ _ _ _ (by first | omega | (simp only [ob, ln, bdv] at *; omega))]); (repeat' split) <;> first | rfl | omega | exact simOL_refl _ | (simp_all; done) | (simp_all; rfl) | (simp_all; omega) | (simp_all; exact simOL_refl _) | (simp [putL, NoBorL, NoBor]; done))))
        · first | simp only [hb, cond_false] at hR | (simp only [*] at hb; simp only [hb, cond_false] at hR)
          refine AWP.skip ?_
          refine AWP.seq ?_
          refine AWP.regS G_ok laws_FnExactRepairFault_DD hc (by kernel_rfl) (fun K hK => ?_); simp only [ea, absV, absVL, gv, sv, laws_markFaultS_sub, D_laws_szFaultS, D_laws_toFaultS, D_laws_eqFaultS, D_spec_RepairFault, D_impl_RepairFault, D_laws_markFaultS, D_laws_heldFaultS, reduceCtorEq, reduceIte, Nat.reduceBEq, Nat.reduceAdd, Nat.reduceEqDiff, Nat.reduceLT, Nat.reduceLeDiff, Nat.reduceMul, Nat.reduceSub, BEq.rfl, beq_self_eq_true, Int.reduceToNat]
          first | refine hK _ ?_ | refine ⟨by (first | trivial | omega | (simp only [ob, ln, bdv, laws_toFaultS_id, sv] at *; omega) | ((try clear hK K); (repeat' first | apply And.intro | intro _) <;> first | trivial | omega | assumption | solve_by_elim | (apply bd_getD <;> first | assumption | decide) | (apply bd_subL <;> first | assumption | decide) | (simp only [ob, ln, bdv, laws_toFaultS_id, sv] at *; first | omega | assumption | (simp_all; done) | grind [spec_RepairFault_len, impl_RepairFault_len, laws_markFaultS_len]))), hK _ ?_⟩
          clear hK K
          refine AWP.seq ?_
          refine AWP.regS G_ok laws_FnExactRepairFault_DD hc (by kernel_rfl) (fun K hK => ?_); simp only [ea, absV, absVL, gv, sv, laws_markFaultS_sub, D_laws_szFaultS, D_laws_toFaultS, D_laws_eqFaultS, D_spec_RepairFault, D_impl_RepairFault, D_laws_markFaultS, D_laws_heldFaultS, reduceCtorEq, reduceIte, Nat.reduceBEq, Nat.reduceAdd, Nat.reduceEqDiff, Nat.reduceLT, Nat.reduceLeDiff, Nat.reduceMul, Nat.reduceSub, BEq.rfl, beq_self_eq_true, Int.reduceToNat]
          first | refine hK _ ?_ | refine ⟨by (first | trivial | omega | (simp only [ob, ln, bdv, laws_toFaultS_id, sv] at *; omega) | ((try clear hK K); (repeat' first | apply And.intro | intro _) <;> first | trivial | omega | assumption | solve_by_elim | (apply bd_getD <;> first | assumption | decide) | (apply bd_subL <;> first | assumption | decide) | (simp only [ob, ln, bdv, laws_toFaultS_id, sv] at *; first | omega | assumption | (simp_all; done) | grind [spec_RepairFault_len, impl_RepairFault_len, laws_markFaultS_len]))), hK _ ?_⟩
          clear hK K
          refine AWP.seq ?_
          refine AWP.regS G_ok laws_FnExactRepairFault_DD hc (by kernel_rfl) (fun K hK => ?_); simp only [ea, absV, absVL, gv, sv, laws_markFaultS_sub, D_laws_szFaultS, D_laws_toFaultS, D_laws_eqFaultS, D_spec_RepairFault, D_impl_RepairFault, D_laws_markFaultS, D_laws_heldFaultS, reduceCtorEq, reduceIte, Nat.reduceBEq, Nat.reduceAdd, Nat.reduceEqDiff, Nat.reduceLT, Nat.reduceLeDiff, Nat.reduceMul, Nat.reduceSub, BEq.rfl, beq_self_eq_true, Int.reduceToNat]
          first | refine hK _ ?_ | refine ⟨by (first | trivial | omega | (simp only [ob, ln, bdv, laws_toFaultS_id, sv] at *; omega) | ((try clear hK K); (repeat' first | apply And.intro | intro _) <;> first | trivial | omega | assumption | solve_by_elim | (apply bd_getD <;> first | assumption | decide) | (apply bd_subL <;> first | assumption | decide) | (simp only [ob, ln, bdv, laws_toFaultS_id, sv] at *; first | omega | assumption | (simp_all; done) | grind [spec_RepairFault_len, impl_RepairFault_len, laws_markFaultS_len]))), hK _ ?_⟩
          clear hK K
          refine AWP.seq ?_
          refine AWP.regS G_ok laws_FnExactRepairFault_DD hc (by kernel_rfl) (fun K hK => ?_); simp only [ea, absV, absVL, gv, sv, laws_markFaultS_sub, D_laws_szFaultS, D_laws_toFaultS, D_laws_eqFaultS, D_spec_RepairFault, D_impl_RepairFault, D_laws_markFaultS, D_laws_heldFaultS, reduceCtorEq, reduceIte, Nat.reduceBEq, Nat.reduceAdd, Nat.reduceEqDiff, Nat.reduceLT, Nat.reduceLeDiff, Nat.reduceMul, Nat.reduceSub, BEq.rfl, beq_self_eq_true, Int.reduceToNat]
          first | refine hK _ ?_ | refine ⟨by (first | trivial | omega | (simp only [ob, ln, bdv, laws_toFaultS_id, sv] at *; omega) | ((try clear hK K); (repeat' first | apply And.intro | intro _) <;> first | trivial | omega | assumption | solve_by_elim | (apply bd_getD <;> first | assumption | decide) | (apply bd_subL <;> first | assumption | decide) | (simp only [ob, ln, bdv, laws_toFaultS_id, sv] at *; first | omega | assumption | (simp_all; done) | grind [spec_RepairFault_len, impl_RepairFault_len, laws_markFaultS_len]))), hK _ ?_⟩
          clear hK K
          refine AWP.seq ?_
          refine AWP.seq ?_
          refine AWP.regS G_ok laws_FnExactRepairFault_DD hc (by kernel_rfl) (fun K hK => ?_); simp only [ea, absV, absVL, gv, sv, laws_markFaultS_sub, D_laws_szFaultS, D_laws_toFaultS, D_laws_eqFaultS, D_spec_RepairFault, D_impl_RepairFault, D_laws_markFaultS, D_laws_heldFaultS, reduceCtorEq, reduceIte, Nat.reduceBEq, Nat.reduceAdd, Nat.reduceEqDiff, Nat.reduceLT, Nat.reduceLeDiff, Nat.reduceMul, Nat.reduceSub, BEq.rfl, beq_self_eq_true, Int.reduceToNat]
          first | refine hK _ ?_ | refine ⟨by (first | trivial | omega | (simp only [ob, ln, bdv, laws_toFaultS_id, sv] at *; omega) | ((try clear hK K); (repeat' first | apply And.intro | intro _) <;> first | trivial | omega | assumption | solve_by_elim | (apply bd_getD <;> first | assumption | decide) | (apply bd_subL <;> first | assumption | decide) | (simp only [ob, ln, bdv, laws_toFaultS_id, sv] at *; first | omega | assumption | (simp_all; done) | grind [spec_RepairFault_len, impl_RepairFault_len, laws_markFaultS_len]))), hK _ ?_⟩
          clear hK K
          refine AWP.cond rfl (fun hb => ?_) (fun hb => ?_)
          · first | simp only [hb, cond_true] at hR | (simp only [*] at hb; simp only [hb, cond_true] at hR)
            refine AWP.seq ?_
            refine AWP.regS G_ok laws_FnExactRepairFault_DD hc (by kernel_rfl) (fun K hK => ?_); simp only [ea, absV, absVL, gv, sv, laws_markFaultS_sub, D_laws_szFaultS, D_laws_toFaultS, D_laws_eqFaultS, D_spec_RepairFault, D_impl_RepairFault, D_laws_markFaultS, D_laws_heldFaultS, reduceCtorEq, reduceIte, Nat.reduceBEq, Nat.reduceAdd, Nat.reduceEqDiff, Nat.reduceLT, Nat.reduceLeDiff, Nat.reduceMul, Nat.reduceSub, BEq.rfl, beq_self_eq_true, Int.reduceToNat]
            first | refine hK _ ?_ | refine ⟨by (first | trivial | omega | (simp only [ob, ln, bdv, laws_toFaultS_id, sv] at *; omega) | ((try clear hK K); (repeat' first | apply And.intro | intro _) <;> first | trivial | omega | assumption | solve_by_elim | (apply bd_getD <;> first | assumption | decide) | (apply bd_subL <;> first | assumption | decide) | (simp only [ob, ln, bdv, laws_toFaultS_id, sv] at *; first | omega | assumption | (simp_all; done) | grind [spec_RepairFault_len, impl_RepairFault_len, laws_markFaultS_len]))), hK _ ?_⟩
            clear hK K
            refine AWP.ret ?_
            subst hR
            (simp only [en, si, ea, gv, sv, hk, reduceCtorEq, reduceIte, Nat.reduceBEq, Nat.reduceAdd, Nat.reduceEqDiff, Nat.reduceLT, Nat.reduceLeDiff, Nat.reduceMul, Nat.reduceSub, BEq.rfl, beq_self_eq_true, Int.reduceToNat]; first | done | trivial | (and_intros <;> first | rfl | trivial | omega | (rw [IntKind.wrap_i64]; omega) | (simp only [ln]; done) | (simp only [ob, ln, bdv, laws_toFaultS_id, sv] at *; first | omega | grind [spec_RepairFault_len, impl_RepairFault_len, laws_markFaultS_len]) | (left; intro j hj; simp only [pw, Bool.cond_eq_ite, Bool.and_eq_true, decide_eq_true_eq]; (repeat' split) <;> simp [putL, NoBorL, NoBor]) | (intro j hj; simp only [pw, Bool.cond_eq_ite, Bool.and_eq_true, decide_eq_true_eq]; (try rw [subL_getD _ _ _ _ (by first | assumption | omega)]); (try rw [clearL_getD _ _ _ _ (by first | omega | (simp only [ob, ln, bdv] at *; omega))]); (repeat' split) <;> first | rfl | omega | exact simOL_refl _ | (simp_all; done) | (simp_all; rfl) | (simp_all; omega) | (simp_all; exact simOL_refl _) | (simp [putL, NoBorL, NoBor]; done))))
          · first | simp only [hb, cond_false] at hR | (simp only [*] at hb; simp only [hb, cond_false] at hR)
            refine AWP.skip ?_
            refine AWP.seq ?_
            refine AWP.seq ?_
            refine AWP.regS G_ok laws_FnExactRepairFault_DD hc (by kernel_rfl) (fun K hK => ?_); simp only [ea, absV, absVL, gv, sv, laws_markFaultS_sub, D_laws_szFaultS, D_laws_toFaultS, D_laws_eqFaultS, D_spec_RepairFault, D_impl_RepairFault, D_laws_markFaultS, D_laws_heldFaultS, reduceCtorEq, reduceIte, Nat.reduceBEq, Nat.reduceAdd, Nat.reduceEqDiff, Nat.reduceLT, Nat.reduceLeDiff, Nat.reduceMul, Nat.reduceSub, BEq.rfl, beq_self_eq_true, Int.reduceToNat]
            first | refine hK _ ?_ | refine ⟨by (first | trivial | omega | (simp only [ob, ln, bdv, laws_toFaultS_id, sv] at *; omega) | ((try clear hK K); (repeat' first | apply And.intro | intro _) <;> first | trivial | omega | assumption | solve_by_elim | (apply bd_getD <;> first | assumption | decide) | (apply bd_subL <;> first | assumption | decide) | (simp only [ob, ln, bdv, laws_toFaultS_id, sv] at *; first | omega | assumption | (simp_all; done) | grind [spec_RepairFault_len, impl_RepairFault_len, laws_markFaultS_len]))), hK _ ?_⟩
            clear hK K
            refine AWP.cond rfl (fun hb => ?_) (fun hb => ?_)
            · first | simp only [hb, cond_true] at hR | (simp only [*] at hb; simp only [hb, cond_true] at hR)
              refine AWP.seq ?_
              refine AWP.regS G_ok laws_FnExactRepairFault_DD hc (by kernel_rfl) (fun K hK => ?_); simp only [ea, absV, absVL, gv, sv, laws_markFaultS_sub, D_laws_szFaultS, D_laws_toFaultS, D_laws_eqFaultS, D_spec_RepairFault, D_impl_RepairFault, D_laws_markFaultS, D_laws_heldFaultS, reduceCtorEq, reduceIte, Nat.reduceBEq, Nat.reduceAdd, Nat.reduceEqDiff, Nat.reduceLT, Nat.reduceLeDiff, Nat.reduceMul, Nat.reduceSub, BEq.rfl, beq_self_eq_true, Int.reduceToNat]
              first | refine hK _ ?_ | refine ⟨by (first | trivial | omega | (simp only [ob, ln, bdv, laws_toFaultS_id, sv] at *; omega) | ((try clear hK K); (repeat' first | apply And.intro | intro _) <;> first | trivial | omega | assumption | solve_by_elim | (apply bd_getD <;> first | assumption | decide) | (apply bd_subL <;> first | assumption | decide) | (simp only [ob, ln, bdv, laws_toFaultS_id, sv] at *; first | omega | assumption | (simp_all; done) | grind [spec_RepairFault_len, impl_RepairFault_len, laws_markFaultS_len]))), hK _ ?_⟩
              clear hK K
              refine AWP.ret ?_
              subst hR
              (simp only [en, si, ea, gv, sv, hk, reduceCtorEq, reduceIte, Nat.reduceBEq, Nat.reduceAdd, Nat.reduceEqDiff, Nat.reduceLT, Nat.reduceLeDiff, Nat.reduceMul, Nat.reduceSub, BEq.rfl, beq_self_eq_true, Int.reduceToNat]; first | done | trivial | (and_intros <;> first | rfl | trivial | omega | (rw [IntKind.wrap_i64]; omega) | (simp only [ln]; done) | (simp only [ob, ln, bdv, laws_toFaultS_id, sv] at *; first | omega | grind [spec_RepairFault_len, impl_RepairFault_len, laws_markFaultS_len]) | (left; intro j hj; simp only [pw, Bool.cond_eq_ite, Bool.and_eq_true, decide_eq_true_eq]; (repeat' split) <;> simp [putL, NoBorL, NoBor]) | (intro j hj; simp only [pw, Bool.cond_eq_ite, Bool.and_eq_true, decide_eq_true_eq]; (try rw [subL_getD _ _ _ _ (by first | assumption | omega)]); (try rw [clearL_getD _ _ _ _ (by first | omega | (simp only [ob, ln, bdv] at *; omega))]); (repeat' split) <;> first | rfl | omega | exact simOL_refl _ | (simp_all; done) | (simp_all; rfl) | (simp_all; omega) | (simp_all; exact simOL_refl _) | (simp [putL, NoBorL, NoBor]; done))))
            · first | simp only [hb, cond_false] at hR | (simp only [*] at hb; simp only [hb, cond_false] at hR)
              refine AWP.skip ?_
              refine AWP.seq ?_
              refine AWP.regS G_ok laws_FnExactRepairFault_DD hc (by kernel_rfl) (fun K hK => ?_); simp only [ea, absV, absVL, gv, sv, laws_markFaultS_sub, D_laws_szFaultS, D_laws_toFaultS, D_laws_eqFaultS, D_spec_RepairFault, D_impl_RepairFault, D_laws_markFaultS, D_laws_heldFaultS, reduceCtorEq, reduceIte, Nat.reduceBEq, Nat.reduceAdd, Nat.reduceEqDiff, Nat.reduceLT, Nat.reduceLeDiff, Nat.reduceMul, Nat.reduceSub, BEq.rfl, beq_self_eq_true, Int.reduceToNat]
              first | refine hK _ ?_ | refine ⟨by (first | trivial | omega | (simp only [ob, ln, bdv, laws_toFaultS_id, sv] at *; omega) | ((try clear hK K); (repeat' first | apply And.intro | intro _) <;> first | trivial | omega | assumption | solve_by_elim | (apply bd_getD <;> first | assumption | decide) | (apply bd_subL <;> first | assumption | decide) | (simp only [ob, ln, bdv, laws_toFaultS_id, sv] at *; first | omega | assumption | (simp_all; done) | grind [spec_RepairFault_len, impl_RepairFault_len, laws_markFaultS_len]))), hK _ ?_⟩
              clear hK K
              refine AWP.seq ?_
              refine AWP.seq ?_
              refine AWP.regS G_ok laws_FnExactRepairFault_DD hc (by kernel_rfl) (fun K hK => ?_); simp only [ea, absV, absVL, gv, sv, laws_markFaultS_sub, D_laws_szFaultS, D_laws_toFaultS, D_laws_eqFaultS, D_spec_RepairFault, D_impl_RepairFault, D_laws_markFaultS, D_laws_heldFaultS, reduceCtorEq, reduceIte, Nat.reduceBEq, Nat.reduceAdd, Nat.reduceEqDiff, Nat.reduceLT, Nat.reduceLeDiff, Nat.reduceMul, Nat.reduceSub, BEq.rfl, beq_self_eq_true, Int.reduceToNat]
              first | refine hK _ ?_ | refine ⟨by (first | trivial | omega | (simp only [ob, ln, bdv, laws_toFaultS_id, sv] at *; omega) | ((try clear hK K); (repeat' first | apply And.intro | intro _) <;> first | trivial | omega | assumption | solve_by_elim | (apply bd_getD <;> first | assumption | decide) | (apply bd_subL <;> first | assumption | decide) | (simp only [ob, ln, bdv, laws_toFaultS_id, sv] at *; first | omega | assumption | (simp_all; done) | grind [spec_RepairFault_len, impl_RepairFault_len, laws_markFaultS_len]))), hK _ ?_⟩
              clear hK K
              refine AWP.cond rfl (fun hb => ?_) (fun hb => ?_)
              · exfalso; simp_all
              · refine AWP.skip ?_
                refine AWP.seq ?_
                refine AWP.regS G_ok laws_FnExactRepairFault_DD hc (by kernel_rfl) (fun K hK => ?_); simp only [ea, absV, absVL, gv, sv, laws_markFaultS_sub, D_laws_szFaultS, D_laws_toFaultS, D_laws_eqFaultS, D_spec_RepairFault, D_impl_RepairFault, D_laws_markFaultS, D_laws_heldFaultS, reduceCtorEq, reduceIte, Nat.reduceBEq, Nat.reduceAdd, Nat.reduceEqDiff, Nat.reduceLT, Nat.reduceLeDiff, Nat.reduceMul, Nat.reduceSub, BEq.rfl, beq_self_eq_true, Int.reduceToNat]
                first | refine hK _ ?_ | refine ⟨by (first | trivial | omega | (simp only [ob, ln, bdv, laws_toFaultS_id, sv] at *; omega) | ((try clear hK K); (repeat' first | apply And.intro | intro _) <;> first | trivial | omega | assumption | solve_by_elim | (apply bd_getD <;> first | assumption | decide) | (apply bd_subL <;> first | assumption | decide) | (simp only [ob, ln, bdv, laws_toFaultS_id, sv] at *; first | omega | assumption | (simp_all; done) | grind [spec_RepairFault_len, impl_RepairFault_len, laws_markFaultS_len]))), hK _ ?_⟩
                clear hK K
                refine AWP.seq ?_
                refine AWP.regS G_ok laws_FnExactRepairFault_DD hc (by kernel_rfl) (fun K hK => ?_); simp only [ea, absV, absVL, gv, sv, laws_markFaultS_sub, D_laws_szFaultS, D_laws_toFaultS, D_laws_eqFaultS, D_spec_RepairFault, D_impl_RepairFault, D_laws_markFaultS, D_laws_heldFaultS, reduceCtorEq, reduceIte, Nat.reduceBEq, Nat.reduceAdd, Nat.reduceEqDiff, Nat.reduceLT, Nat.reduceLeDiff, Nat.reduceMul, Nat.reduceSub, BEq.rfl, beq_self_eq_true, Int.reduceToNat]
                first | refine hK _ ?_ | refine ⟨by (first | trivial | omega | (simp only [ob, ln, bdv, laws_toFaultS_id, sv] at *; omega) | ((try clear hK K); (repeat' first | apply And.intro | intro _) <;> first | trivial | omega | assumption | solve_by_elim | (apply bd_getD <;> first | assumption | decide) | (apply bd_subL <;> first | assumption | decide) | (simp only [ob, ln, bdv, laws_toFaultS_id, sv] at *; first | omega | assumption | (simp_all; done) | grind [spec_RepairFault_len, impl_RepairFault_len, laws_markFaultS_len]))), hK _ ?_⟩
                clear hK K
                refine AWP.seq ?_
                refine AWP.seq ?_
                refine AWP.regS G_ok laws_FnExactRepairFault_DD hc (by kernel_rfl) (fun K hK => ?_); simp only [ea, absV, absVL, gv, sv, laws_markFaultS_sub, D_laws_szFaultS, D_laws_toFaultS, D_laws_eqFaultS, D_spec_RepairFault, D_impl_RepairFault, D_laws_markFaultS, D_laws_heldFaultS, reduceCtorEq, reduceIte, Nat.reduceBEq, Nat.reduceAdd, Nat.reduceEqDiff, Nat.reduceLT, Nat.reduceLeDiff, Nat.reduceMul, Nat.reduceSub, BEq.rfl, beq_self_eq_true, Int.reduceToNat]
                first | refine hK _ ?_ | refine ⟨by (first | trivial | omega | (simp only [ob, ln, bdv, laws_toFaultS_id, sv] at *; omega) | ((try clear hK K); (repeat' first | apply And.intro | intro _) <;> first | trivial | omega | assumption | solve_by_elim | (apply bd_getD <;> first | assumption | decide) | (apply bd_subL <;> first | assumption | decide) | (simp only [ob, ln, bdv, laws_toFaultS_id, sv] at *; first | omega | assumption | (simp_all; done) | grind [spec_RepairFault_len, impl_RepairFault_len, laws_markFaultS_len]))), hK _ ?_⟩
                clear hK K
                refine AWP.cond rfl (fun hb => ?_) (fun hb => ?_)
                · exfalso; simp_all
                · refine AWP.skip ?_
                  refine AWP.seq ?_
                  refine AWP.seq ?_
                  refine AWP.regS G_ok laws_FnExactRepairFault_DD hc (by kernel_rfl) (fun K hK => ?_); simp only [ea, absV, absVL, gv, sv, laws_markFaultS_sub, D_laws_szFaultS, D_laws_toFaultS, D_laws_eqFaultS, D_spec_RepairFault, D_impl_RepairFault, D_laws_markFaultS, D_laws_heldFaultS, reduceCtorEq, reduceIte, Nat.reduceBEq, Nat.reduceAdd, Nat.reduceEqDiff, Nat.reduceLT, Nat.reduceLeDiff, Nat.reduceMul, Nat.reduceSub, BEq.rfl, beq_self_eq_true, Int.reduceToNat]
                  first | refine hK _ ?_ | refine ⟨by (first | trivial | omega | (simp only [ob, ln, bdv, laws_toFaultS_id, sv] at *; omega) | ((try clear hK K); (repeat' first | apply And.intro | intro _) <;> first | trivial | omega | assumption | solve_by_elim | (apply bd_getD <;> first | assumption | decide) | (apply bd_subL <;> first | assumption | decide) | (simp only [ob, ln, bdv, laws_toFaultS_id, sv] at *; first | omega | assumption | (simp_all; done) | grind [spec_RepairFault_len, impl_RepairFault_len, laws_markFaultS_len]))), hK _ ?_⟩
                  clear hK K
                  refine AWP.cond rfl (fun hb => ?_) (fun hb => ?_)
                  · exfalso; simp_all
                  · refine AWP.skip ?_
                    refine AWP.seq ?_
                    refine AWP.regS G_ok laws_FnExactRepairFault_DD hc (by kernel_rfl) (fun K hK => ?_); simp only [ea, absV, absVL, gv, sv, laws_markFaultS_sub, D_laws_szFaultS, D_laws_toFaultS, D_laws_eqFaultS, D_spec_RepairFault, D_impl_RepairFault, D_laws_markFaultS, D_laws_heldFaultS, reduceCtorEq, reduceIte, Nat.reduceBEq, Nat.reduceAdd, Nat.reduceEqDiff, Nat.reduceLT, Nat.reduceLeDiff, Nat.reduceMul, Nat.reduceSub, BEq.rfl, beq_self_eq_true, Int.reduceToNat]
                    first | refine hK _ ?_ | refine ⟨by (first | trivial | omega | (simp only [ob, ln, bdv, laws_toFaultS_id, sv] at *; omega) | ((try clear hK K); (repeat' first | apply And.intro | intro _) <;> first | trivial | omega | assumption | solve_by_elim | (apply bd_getD <;> first | assumption | decide) | (apply bd_subL <;> first | assumption | decide) | (simp only [ob, ln, bdv, laws_toFaultS_id, sv] at *; first | omega | assumption | (simp_all; done) | grind [spec_RepairFault_len, impl_RepairFault_len, laws_markFaultS_len]))), hK _ ?_⟩
                    clear hK K
                    refine AWP.ret ?_
                    subst hR
                    (simp only [en, si, ea, gv, sv, hk, reduceCtorEq, reduceIte, Nat.reduceBEq, Nat.reduceAdd, Nat.reduceEqDiff, Nat.reduceLT, Nat.reduceLeDiff, Nat.reduceMul, Nat.reduceSub, BEq.rfl, beq_self_eq_true, Int.reduceToNat]; first | done | trivial | (and_intros <;> first | rfl | trivial | omega | (rw [IntKind.wrap_i64]; omega) | (simp only [ln]; done) | (simp only [ob, ln, bdv, laws_toFaultS_id, sv] at *; first | omega | grind [spec_RepairFault_len, impl_RepairFault_len, laws_markFaultS_len]) | (left; intro j hj; simp only [pw, Bool.cond_eq_ite, Bool.and_eq_true, decide_eq_true_eq]; (repeat' split) <;> simp [putL, NoBorL, NoBor]) | (intro j hj; simp only [pw, Bool.cond_eq_ite, Bool.and_eq_true, decide_eq_true_eq]; (try rw [subL_getD _ _ _ _ (by first | assumption | omega)]); (try rw [clearL_getD _ _ _ _ (by first | omega | (simp only [ob, ln, bdv] at *; omega))]); (repeat' split) <;> first | rfl | omega | exact simOL_refl _ | (simp_all; done) | (simp_all; rfl) | (simp_all; omega) | (simp_all; exact simOL_refl _) | (simp [putL, NoBorL, NoBor]; done))))

def D_laws_FnExactRepairFault : DF
  | [x0, x1, x2, x3] => some (.bool (laws_FnExactRepairFault (rdL dFault x0) (rdI x1) (rdI x2) (rdI x3)), false, [wL 4 eFault dFault x0, wI .i64 x1, wI .i64 x2, wI .i64 x3, (rdL dFault x0).length < 9223372036854775808])
  | _ => none
theorem D_laws_FnExactRepairFault_ok : OkD Try.prog 8 D_laws_FnExactRepairFault := by
  intro xs r z ob h ho
  unfold D_laws_FnExactRepairFault at h
  split at h
  · simp only [Option.some.injEq, Prod.mk.injEq] at h
    obtain ⟨rfl, rfl, rfl⟩ := h
    obtain ⟨h0, h1, h2, h3, hb0, _⟩ := ho
    exact Den.sim (laws_FnExactRepairFault_den _ _ _ _ hb0) (simOL_cons (wL_sim h0).1 <| simOL_cons (wI_sim h1).1 <| simOL_cons (wI_sim h2).1 <| simOL_cons (wI_sim h3).1 <| trivial) (noIdL_cons (wL_sim h0).2 <| noIdL_cons (wI_sim h1).2 <| noIdL_cons (wI_sim h2).2 <| noIdL_cons (wI_sim h3).2 <| rfl) rfl
  · cases h
end Go.Ab

namespace Go.Ab
open Go Go.Proofs
theorem loopR_congr {ρ σ : Type} {b b' : Nat → σ → Except ρ σ} : ∀ {k i : Nat} {s : σ}, (∀ j u, i ≤ j → j < i + k → b j u = b' j u) → loopR b k i s = loopR b' k i s
  | 0, _, _, _ => rfl
  | k + 1, i, s, h => by
    simp only [loopR]
    rw [h i s (Nat.le_refl _) (by omega)]
    cases b' i s with
    | error e => rfl
    | ok t => exact loopR_congr (fun j u h1 h2 => h j u (by omega) (by omega))
theorem valid_all (a : List Fault) (hl : a.length < 1099511627776) (h : spec_l20Ok a = true) : ∀ j, j < a.length → vF (a.getD j default) := by
  intro j hj
  unfold spec_l20Ok at h
  rw [loopR_any (b := spec_l20Ok_b1 a) (pS a) false (fun j u _ _ => by
    simp only [spec_l20Ok_b1, pS]
    rw [loopR_any (b := spec_l20Ok_b2 a j u) (qS a j) false (fun k u _ _ => rfl)]
    simp only [Nat.sub_zero, Nat.zero_add]
    generalize ((!(spec_l20One (a.getD j default))) || (decide (0 < (j : Int)) && (!(spec_l20Less (a.getD ((IntKind.wrap .i64 ((j : Int) - 1)).toNat) default) (a.getD j default))))) = c
    generalize (List.range j).any (qS a j) = d
    cases c <;> cases d <;> rfl)] at h
  simp only [Nat.sub_zero, Nat.zero_add] at h
  refine Classical.byContradiction fun hn => ?_
  have hp := (pS_iff a j (by omega)).2 (.inl hn)
  have : (List.range a.length).any (fun j => pS a j) = true := List.any_eq_true.2 ⟨j, List.mem_range.2 hj, hp⟩
  rw [this] at h
  simp at h
theorem repairFault_eq (a : List Fault) (x k t : Int) (hl : a.length < 1099511627776) : impl_RepairFault a x k t = spec_RepairFault a x k t := by
  unfold impl_RepairFault spec_RepairFault
  have h := validFaults_eq a hl
  unfold spec_ValidFaults at h
  rw [h, impl_clone_Fault_id]
  cases hv : spec_l20Ok a with
  | false => rfl
  | true =>
    simp only [Bool.not_true, cond_false]
    have hc : loopR (impl_RepairFault_b1 a x k t) (a.length - 0) 0 () = loopR (spec_RepairFault_b1 a x k t) (a.length - 0) 0 () := by
     refine loopR_congr ?_
     intro j u _ hj
     have hf := valid_all a hl hv j (by omega)
     simp only [impl_RepairFault_b1, spec_RepairFault_b1, impl_clone_Fault_id, List.nil_append]
     generalize a.getD j default = f at hf ⊢
     simp only [impl_within, spec_l20Time, spec_l00In, Bool.cond_eq_ite, bne_iff_ne, beq_iff_eq, Bool.or_eq_true, Bool.and_eq_true, Bool.not_eq_true', decide_eq_true_eq, decide_eq_false_iff_not, Bool.and_eq_false_imp, IntKind.wrap_i64, ne_eq]
     unfold vF at hf
     by_cases c : (f.Aid = x ∧ f.Kind = k) ∧ f.Until = -1
     · rw [if_neg (by omega), if_pos c]
       by_cases c2 : f.From + 1 ≤ t ∧ t ≤ 143999999
       · rw [if_neg (by omega), if_neg (by omega)]
       · rw [if_pos (by omega), if_pos (by omega)]
     · rw [if_pos (by omega), if_neg c]
    rw [hc]
    all_goals rfl
theorem law_RepairFault (a : List Fault) (x k t : Int) (hl : a.length < 9223372036854775808) : laws_FnExactRepairFault a x k t = true := by
  unfold laws_FnExactRepairFault
  have hf := laws_szFaultS_facts a 1048576 (by omega) (by omega) hl
  simp only [laws_toFaultS_id, laws_eqFaultS_dec]
  by_cases h : laws_szFaultS a 1048576 < 0
  · simp [h]
  · have := hf.2.2 h
    rw [← repairFault_eq a x k t (by omega)]
    have h1 := impl_RepairFault_len a x k t
    have hm := laws_heldFaultS_mark (impl_RepairFault a x k t).1 (by omega)
    have hn := (laws_heldFaultS_mark a (by omega)).2
    rw [hm.1]
    simp [h, hm.2, hn]
end Go.Ab

namespace Go.Ab
open Go Go.Proofs Go.Deep Go.Joins Go.ChangeShapes Go.WideShapes Go.ChangeAt Go.RowKit
theorem Fault_cells {H : Type} {enc : TypeId × Value → H} {W : World} {base : Nat} {sp : Nat → Bool} {hd : Bool} {fuel : Nat} {cs : List Value} {x : DataW H × List MemPlace}
    (h : DataW.trod enc Try.prog W base sp hd fuel 72 cs = some x) : ∃ v : Fault, cs = [.int .i64 v.Aid, .int .i64 v.Kind, .int .i64 v.From, .int .i64 v.Until] := by
  obtain ⟨y0, y1, y2, y3, n, _, hl, h0, h1, h2, h3⟩ := trod_struct4 Try.underlying72 h
  have e0 : Try.prog.cellsOf 72 = 4 := by kernel_rfl
  have e2 : Try.prog.cellsOf 2 = 1 := by kernel_rfl
  simp only [e0, e2] at hl h0 h1 h2 h3
  match cs, hl with
  | [c0, c1, c2, c3], _ =>
    obtain ⟨n0, q0, _⟩ := DataW.trod_int Try.underlying2 h0
    obtain ⟨n1, q1, _⟩ := DataW.trod_int Try.underlying2 h1
    obtain ⟨n2, q2, _⟩ := DataW.trod_int Try.underlying2 h2
    obtain ⟨n3, q3, _⟩ := DataW.trod_int Try.underlying2 h3
    simp at q0 q1 q2 q3
    subst q0
    subst q1
    subst q2
    subst q3
    exact ⟨⟨n0, n1, n2, n3⟩, rfl⟩

set_option maxRecDepth 100000 in
theorem Fault_list {H : Type} {enc : TypeId × Value → H} {W : World} {base : Nat} {v : Value} {d : DataW H} {ps : List MemPlace} (hval : Value.okWide Try.prog W .any base 22 v) (h : DataW.Trod enc Try.prog W 0 (fun _ => true) true 22 v d ps) :
    ∃ a : List Fault, a.length < 9223372036854775808 ∧ Rep W (fun _ => False) (encL 4 eFault a) noMap v [] := by
  obtain ⟨fuel, h⟩ := h
  obtain ⟨oa, len, cap, rfl⟩ := okWide_slice Try.underlying22 hval
  have e33 : Try.prog.cellsOf 72 = 4 := by kernel_rfl
  rcases open_slice Try.underlying22 h with ⟨h1, _⟩ | ⟨a, len', cap', m, n, D, Pl, h1, hb, hl, hm, hme, _, hel⟩
  · simp [Value.cells] at h1
    obtain ⟨rfl, rfl, rfl⟩ := h1
    exact ⟨[], Nat.lt_of_lt_of_le (Nat.zero_lt_one) (by omega), by simp [encL, Rep]⟩
  · simp [Value.cells] at h1
    obtain ⟨rfl, rfl, rfl⟩ := h1
    simp only [if_true] at hme
    subst hme
    have hhas : a.spot = none ∧ a.block < W.heap.size := by
      simp only [Value.okWide, Try.underlying22, Cell.okWide, Cell.ok, World.has] at hval
      obtain ⟨_, _, _, h4, row, cells, h5, _⟩ := hval
      refine ⟨h4, ?_⟩
      rcases Nat.lt_or_ge a.block W.heap.size with h | h
      · exact h
      · simp [World.shape?, Array.getElem?_eq_none h] at h5
    obtain ⟨b, o, sp⟩ := a
    obtain ⟨rfl, hblt⟩ := hhas
    have hex : ∀ i, ∃ u : Fault, (i < len → ∀ j x, [Value.int .i64 u.Aid, .int .i64 u.Kind, .int .i64 u.From, .int .i64 u.Until][j]? = some x → W.cell? ⟨b, o + i * 4 + j, none⟩ = some x ∧ x.oneCell' = true) := by
      intro i
      by_cases hi : i < len
      · obtain ⟨cs, hc, ht⟩ := hel i (by omega)
        obtain ⟨u, rfl⟩ := Fault_cells ht
        refine ⟨u, fun _ j x hx => ?_⟩
        obtain ⟨_, _, hc3⟩ := World.cells?_some hc
        rw [e33] at hc3
        have hj : j < 4 := by
          rcases Nat.lt_or_ge j 4 with h | h
          · exact h
          · rw [List.getElem?_eq_none (by simpa using h)] at hx; cases hx
        have := hc3 j hj
        rw [hx] at this
        rw [Addr.add_lit, Addr.add_lit] at this
        refine ⟨this, ?_⟩
        match j, hj with
        | 0, _ => simp at hx; subst hx; rfl
        | 1, _ => simp at hx; subst hx; rfl
        | 2, _ => simp at hx; subst hx; rfl
        | 3, _ => simp at hx; subst hx; rfl
      · exact ⟨default, fun h => absurd h hi⟩
    obtain ⟨g, hg⟩ := Classical.axiomOfChoice hex
    refine ⟨(List.range len).map g, ?_, ?_⟩
    · simp only [List.length_map, List.length_range]
      have : maxLen = 9223372036854775807 := by decide
      omega
    · simp only [encL, Rep]
      refine .inr ⟨b, o, m, fun i => [Value.int .i64 (g i).Aid, .int .i64 (g i).Kind, .int .i64 (g i).From, .int .i64 (g i).Until], fun _ => [], by simp, by simpa using hl, hblt, ?_, by simp, trivial, by simp⟩
      intro i hi
      simp at hi
      have : ((List.range len).map g).getD i default = g i := by simp [List.getD_eq_getElem?_getD, hi]
      rw [this]
      refine ⟨?_, rfl, fun j u hu => (hg i) hi j u hu⟩
      simp only [eFault, RepL, Rep]
      exact ⟨_, _, [], [], rfl, rfl, ⟨rfl, rfl⟩, _, _, [], [], rfl, rfl, ⟨rfl, rfl⟩, _, _, [], [], rfl, rfl, ⟨rfl, rfl⟩, _, _, [], [], rfl, rfl, ⟨rfl, rfl⟩, rfl, rfl⟩
end Go.Ab
