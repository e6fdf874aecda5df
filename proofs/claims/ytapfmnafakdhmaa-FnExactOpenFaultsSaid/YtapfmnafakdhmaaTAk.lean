/- A part of a proof: walks of functions and lemmas of our own. No conditions. -/
import Derived.Test.YtapfmnafakdhmaaTAi
import Derived.Test.YtapfmnafakdhmaaTAj
import Derived.Test.YtapfmnafakdhmaaTAh
set_option linter.unusedVariables false
set_option linter.unusedSimpArgs false
namespace Go.Ab
open Go Go.Proofs
theorem impl_ValidFaults_DD : DOk Try.prog (DD [(54, dP D_impl_Fault_valid), (55, dP D_impl_Fault_compare), (56, dP D_slices_ContainsFunc_Fault__impl_Fault_meets), (58, dP D_impl_few)]) := DD_cons D_impl_Fault_valid_ok.e <| DD_cons D_impl_Fault_compare_ok.e <| DD_cons D_slices_ContainsFunc_Fault__impl_Fault_meets_ok.e <| DD_cons D_impl_few_ok.e <| DD_nil _
def impl_ValidFaults_b1 (a0 : (List Fault)) (i1 : Nat) (s1 : Unit) : Except (Bool) (Unit) :=
  (bif (((!(impl_Fault_valid (a0.getD i1 default))) || (decide (0 < (i1 : Int)) && decide (0 ≤ (impl_Fault_compare (a0.getD ((IntKind.wrap .i64 ((i1 : Int) - 1)).toNat) default) (a0.getD i1 default))))) || (slices_ContainsFunc_Fault__impl_Fault_meets (subL a0 0 (i1)) (a0.getD i1 default))) then .error false else .ok ())

def impl_ValidFaults (a0 : (List Fault)) : Bool :=
  (match loopR (impl_ValidFaults_b1 a0) (a0.length - 0) 0 () with | .error e => e | .ok s1 => (impl_few (a0.length : Int) 48))

theorem impl_ValidFaults_den (a0 : (List Fault)) (hb0 : a0.length < 1099511627776) : Den Try.prog 17 [encL 4 eFault a0] (.bool (impl_ValidFaults a0)) := by
  generalize hR : impl_ValidFaults a0 = r
  unfold impl_ValidFaults at hR
  refine den_intro G_ok Try.func17 (by kernel_rfl) rfl Try.ntmps17 (by rw [Try.results17]) (by simp) rfl ?_
  intro c hc hk
  simp only [pars, Nat.zero_add]
  refine AWP.seq ?_
  refine AWP.regS G_ok impl_ValidFaults_DD hc (by kernel_rfl) (fun K hK => ?_); simp only [ea, gv, sv, D_impl_Fault_valid, D_impl_Fault_compare, D_slices_ContainsFunc_Fault__impl_Fault_meets, D_impl_few, reduceCtorEq, reduceIte, Nat.reduceBEq, Nat.reduceAdd, Nat.reduceEqDiff, Nat.reduceLT, Nat.reduceLeDiff, Nat.reduceMul, Nat.reduceSub, BEq.rfl, beq_self_eq_true, Int.reduceToNat]
  first | refine hK _ ?_ | refine ⟨by (first | trivial | omega | (simp only [ob, ln, bdv, sv] at *; omega) | ((try clear hK K); (repeat' first | apply And.intro | intro _) <;> first | trivial | omega | assumption | solve_by_elim | (apply bd_getD <;> first | assumption | decide) | (apply bd_subL <;> first | assumption | decide) | (simp only [ob, ln, bdv, sv] at *; first | omega | assumption | (simp_all; done) | grind))), hK _ ?_⟩
  clear hK K
  refine AWP.seq ?_
  refine AWP.seq ?_
  refine AWP.regS G_ok impl_ValidFaults_DD hc (by kernel_rfl) (fun K hK => ?_); simp only [ea, gv, sv, D_impl_Fault_valid, D_impl_Fault_compare, D_slices_ContainsFunc_Fault__impl_Fault_meets, D_impl_few, reduceCtorEq, reduceIte, Nat.reduceBEq, Nat.reduceAdd, Nat.reduceEqDiff, Nat.reduceLT, Nat.reduceLeDiff, Nat.reduceMul, Nat.reduceSub, BEq.rfl, beq_self_eq_true, Int.reduceToNat]
  first | refine hK _ ?_ | refine ⟨by (first | trivial | omega | (simp only [ob, ln, bdv, sv] at *; omega) | ((try clear hK K); (repeat' first | apply And.intro | intro _) <;> first | trivial | omega | assumption | solve_by_elim | (apply bd_getD <;> first | assumption | decide) | (apply bd_subL <;> first | assumption | decide) | (simp only [ob, ln, bdv, sv] at *; first | omega | assumption | (simp_all; done) | grind))), hK _ ?_⟩
  clear hK K
  refine AWP.block ?_
  generalize hz1 : loopR (impl_ValidFaults_b1 a0) (a0.length - 0) 0 () = z1 at hR
  refine AWP.range (impl_ValidFaults_b1 a0) (fun i1 s1 => ⟨[(0, encL 4 eFault a0), (5, encL 4 eFault a0), (6, .int .i64 (a0.length : Int)), (7, .int .i64 (i1 : Int))], []⟩) (fun i1 s1 => True) (a0.length) 0 () [] hz1 (by (first | trivial | omega | (simp only [ob, ln, bdv, sv] at *; omega) | ((try clear hK K); (repeat' first | apply And.intro | intro _) <;> first | trivial | omega | assumption | solve_by_elim | (apply bd_getD <;> first | assumption | decide) | (apply bd_subL <;> first | assumption | decide) | (simp only [ob, ln, bdv, sv] at *; first | omega | assumption | (simp_all; done) | grind)))) (by (first | trivial | (and_intros <;> simp only [ln] <;> omega) | (and_intros <;> simp only [ob, ln] at * <;> omega) | (and_intros <;> first | trivial | omega | assumption | (apply bd_set <;> first | assumption | (apply bd_getD <;> first | assumption | decide)) | (apply bd_app <;> first | assumption | (apply bd_getD <;> first | assumption | decide)) | (simp only [ob, ln, bdv, sv] at *; omega) | (simp; done)))) (by (simp only [si, ea, gv, sv, hk, reduceCtorEq, reduceIte, Nat.reduceBEq, Nat.reduceAdd, Nat.reduceEqDiff, Nat.reduceLT, Nat.reduceLeDiff, Nat.reduceMul, Nat.reduceSub, BEq.rfl, beq_self_eq_true, Int.reduceToNat]; first | done | trivial | (and_intros <;> first | rfl | trivial | omega | (rw [IntKind.wrap_i64]; omega) | (simp only [ln]; done) | (simp only [ob, ln, bdv, sv] at *; first | omega | grind) | (left; intro j hj; simp only [pw, Bool.cond_eq_ite, Bool.and_eq_true, decide_eq_true_eq]; (repeat' split) <;> simp [putL, NoBorL, NoBor]) | (intro j hj; simp only [pw, Bool.cond_eq_ite, Bool.and_eq_true, decide_eq_true_eq]; (try rw [subL_getD _ _ _ _ (by first | assumption | omega)]); (try rw [clearL_getD _ _ _ _ (by first | omega | (simp only [ob, ln, bdv] at *; omega))]); (repeat' split) <;> first | rfl | omega | exact simOL_refl _ | (simp_all; done) | (simp_all; rfl) | (simp_all; omega) | (simp_all; exact simOL_refl _) | (simp [putL, NoBorL, NoBor]; done))))) ?_
  clear hz1
  intro i1 s1 hi1 hW1 hz1
  refine AWP.seq ?_
  refine AWP.regS G_ok impl_ValidFaults_DD hc (by kernel_rfl) (fun K hK => ?_); simp only [ea, gv, sv, D_impl_Fault_valid, D_impl_Fault_compare, D_slices_ContainsFunc_Fault__impl_Fault_meets, D_impl_few, reduceCtorEq, reduceIte, Nat.reduceBEq, Nat.reduceAdd, Nat.reduceEqDiff, Nat.reduceLT, Nat.reduceLeDiff, Nat.reduceMul, Nat.reduceSub, BEq.rfl, beq_self_eq_true, Int.reduceToNat]
  first | refine hK _ ?_ | refine ⟨by (first | trivial | omega | (simp only [ob, ln, bdv, sv] at *; omega) | ((try clear hK K); (repeat' first | apply And.intro | intro _) <;> first | trivial | omega | assumption | solve_by_elim | (apply bd_getD <;> first | assumption | decide) | (apply bd_subL <;> first | assumption | decide) | (simp only [ob, ln, bdv, sv] at *; first | omega | assumption | (simp_all; done) | grind))), hK _ ?_⟩
  clear hK K
  refine AWP.seq ?_
  refine AWP.cond rfl (fun hb => ?_) (fun hb => ?_)
  · have hlt1 : i1 < a0.length := by (first | trivial | omega | (simp only [ob, ln, bdv, sv] at *; omega) | ((try clear hK K); (repeat' first | apply And.intro | intro _) <;> first | trivial | omega | assumption | solve_by_elim | (apply bd_getD <;> first | assumption | decide) | (apply bd_subL <;> first | assumption | decide) | (simp only [ob, ln, bdv, sv] at *; first | omega | assumption | (simp_all; done) | grind)))
    rw [loopR_lt hlt1] at hz1; simp only [impl_ValidFaults_b1] at hz1
    refine AWP.skip ?_
    refine AWP.seq ?_
    refine AWP.block ?_
    refine AWP.seq ?_
    refine AWP.regS G_ok impl_ValidFaults_DD hc (by kernel_rfl) (fun K hK => ?_); simp only [ea, gv, sv, D_impl_Fault_valid, D_impl_Fault_compare, D_slices_ContainsFunc_Fault__impl_Fault_meets, D_impl_few, reduceCtorEq, reduceIte, Nat.reduceBEq, Nat.reduceAdd, Nat.reduceEqDiff, Nat.reduceLT, Nat.reduceLeDiff, Nat.reduceMul, Nat.reduceSub, BEq.rfl, beq_self_eq_true, Int.reduceToNat]
    first | refine hK _ ?_ | refine ⟨by (first | trivial | omega | (simp only [ob, ln, bdv, sv] at *; omega) | ((try clear hK K); (repeat' first | apply And.intro | intro _) <;> first | trivial | omega | assumption | solve_by_elim | (apply bd_getD <;> first | assumption | decide) | (apply bd_subL <;> first | assumption | decide) | (simp only [ob, ln, bdv, sv] at *; first | omega | assumption | (simp_all; done) | grind))), hK _ ?_⟩
    clear hK K
    refine AWP.seq ?_
    refine AWP.regM mixed G_ok impl_ValidFaults_DD hc (by kernel_rfl) (by kernel_rfl) (fun K hK => ?_); simp only [ea, gv, sv, D_impl_Fault_valid, D_impl_Fault_compare, D_slices_ContainsFunc_Fault__impl_Fault_meets, D_impl_few, reduceCtorEq, reduceIte, Nat.reduceBEq, Nat.reduceAdd, Nat.reduceEqDiff, Nat.reduceLT, Nat.reduceLeDiff, Nat.reduceMul, Nat.reduceSub, BEq.rfl, beq_self_eq_true, Int.reduceToNat]
    first | refine hK _ ?_ | refine ⟨by (first | trivial | omega | (simp only [ob, ln, bdv, sv] at *; omega) | ((try clear hK K); (repeat' first | apply And.intro | intro _) <;> first | trivial | omega | assumption | solve_by_elim | (apply bd_getD <;> first | assumption | decide) | (apply bd_subL <;> first | assumption | decide) | (simp only [ob, ln, bdv, sv] at *; first | omega | assumption | (simp_all; done) | grind))), hK _ ?_⟩
    clear hK K
    refine AWP.cond rfl (fun hb => ?_) (fun hb => ?_)
    · first | simp only [hb, cond_true] at hz1 | (simp only [*] at hb; simp only [hb, cond_true] at hz1)
      refine AWP.seq ?_
      refine AWP.regS G_ok impl_ValidFaults_DD hc (by kernel_rfl) (fun K hK => ?_); simp only [ea, gv, sv, D_impl_Fault_valid, D_impl_Fault_compare, D_slices_ContainsFunc_Fault__impl_Fault_meets, D_impl_few, reduceCtorEq, reduceIte, Nat.reduceBEq, Nat.reduceAdd, Nat.reduceEqDiff, Nat.reduceLT, Nat.reduceLeDiff, Nat.reduceMul, Nat.reduceSub, BEq.rfl, beq_self_eq_true, Int.reduceToNat]
      first | refine hK _ ?_ | refine ⟨by (first | trivial | omega | (simp only [ob, ln, bdv, sv] at *; omega) | ((try clear hK K); (repeat' first | apply And.intro | intro _) <;> first | trivial | omega | assumption | solve_by_elim | (apply bd_getD <;> first | assumption | decide) | (apply bd_subL <;> first | assumption | decide) | (simp only [ob, ln, bdv, sv] at *; first | omega | assumption | (simp_all; done) | grind))), hK _ ?_⟩
      clear hK K
      refine AWP.ret ?_
      subst hz1
      dsimp only at hR
      subst hR
      (simp only [en, si, ea, gv, sv, hk, reduceCtorEq, reduceIte, Nat.reduceBEq, Nat.reduceAdd, Nat.reduceEqDiff, Nat.reduceLT, Nat.reduceLeDiff, Nat.reduceMul, Nat.reduceSub, BEq.rfl, beq_self_eq_true, Int.reduceToNat]; first | done | trivial | (and_intros <;> first | rfl | trivial | omega | (rw [IntKind.wrap_i64]; omega) | (simp only [ln]; done) | (simp only [ob, ln, bdv, sv] at *; first | omega | grind) | (left; intro j hj; simp only [pw, Bool.cond_eq_ite, Bool.and_eq_true, decide_eq_true_eq]; (repeat' split) <;> simp [putL, NoBorL, NoBor]) | (intro j hj; simp only [pw, Bool.cond_eq_ite, Bool.and_eq_true, decide_eq_true_eq]; (try rw [subL_getD _ _ _ _ (by first | assumption | omega)]); (try rw [clearL_getD _ _ _ _ (by first | omega | (simp only [ob, ln, bdv] at *; omega))]); (repeat' split) <;> first | rfl | omega | exact simOL_refl _ | (simp_all; done) | (simp_all; rfl) | (simp_all; omega) | (simp_all; exact simOL_refl _) | (simp [putL, NoBorL, NoBor]; done))))
    · first | simp only [hb, cond_false] at hz1 | (simp only [*] at hb; simp only [hb, cond_false] at hz1)
      refine AWP.skip ?_
      refine AWP.regS G_ok impl_ValidFaults_DD hc (by kernel_rfl) (fun K hK => ?_); simp only [ea, gv, sv, D_impl_Fault_valid, D_impl_Fault_compare, D_slices_ContainsFunc_Fault__impl_Fault_meets, D_impl_few, reduceCtorEq, reduceIte, Nat.reduceBEq, Nat.reduceAdd, Nat.reduceEqDiff, Nat.reduceLT, Nat.reduceLeDiff, Nat.reduceMul, Nat.reduceSub, BEq.rfl, beq_self_eq_true, Int.reduceToNat]
      first | refine hK _ ?_ | refine ⟨by (first | trivial | omega | (simp only [ob, ln, bdv, sv] at *; omega) | ((try clear hK K); (repeat' first | apply And.intro | intro _) <;> first | trivial | omega | assumption | solve_by_elim | (apply bd_getD <;> first | assumption | decide) | (apply bd_subL <;> first | assumption | decide) | (simp only [ob, ln, bdv, sv] at *; first | omega | assumption | (simp_all; done) | grind))), hK _ ?_⟩
      clear hK K
      exact ⟨_, [], hlt1, by (first | trivial | (and_intros <;> simp only [ln] <;> omega) | (and_intros <;> simp only [ob, ln] at * <;> omega) | (and_intros <;> first | trivial | omega | assumption | (apply bd_set <;> first | assumption | (apply bd_getD <;> first | assumption | decide)) | (apply bd_app <;> first | assumption | (apply bd_getD <;> first | assumption | decide)) | (simp only [ob, ln, bdv, sv] at *; omega) | (simp; done))), hz1, by (simp only [si, ea, gv, sv, hk, reduceCtorEq, reduceIte, Nat.reduceBEq, Nat.reduceAdd, Nat.reduceEqDiff, Nat.reduceLT, Nat.reduceLeDiff, Nat.reduceMul, Nat.reduceSub, BEq.rfl, beq_self_eq_true, Int.reduceToNat]; first | done | trivial | (and_intros <;> first | rfl | trivial | omega | (rw [IntKind.wrap_i64]; omega) | (simp only [ln]; done) | (simp only [ob, ln, bdv, sv] at *; first | omega | grind) | (left; intro j hj; simp only [pw, Bool.cond_eq_ite, Bool.and_eq_true, decide_eq_true_eq]; (repeat' split) <;> simp [putL, NoBorL, NoBor]) | (intro j hj; simp only [pw, Bool.cond_eq_ite, Bool.and_eq_true, decide_eq_true_eq]; (try rw [subL_getD _ _ _ _ (by first | assumption | omega)]); (try rw [clearL_getD _ _ _ _ (by first | omega | (simp only [ob, ln, bdv] at *; omega))]); (repeat' split) <;> first | rfl | omega | exact simOL_refl _ | (simp_all; done) | (simp_all; rfl) | (simp_all; omega) | (simp_all; exact simOL_refl _) | (simp [putL, NoBorL, NoBor]; done))))⟩
  · obtain rfl : i1 = a0.length := by (first | trivial | omega | (simp only [ob, ln, bdv, sv] at *; omega) | ((try clear hK K); (repeat' first | apply And.intro | intro _) <;> first | trivial | omega | assumption | solve_by_elim | (apply bd_getD <;> first | assumption | decide) | (apply bd_subL <;> first | assumption | decide) | (simp only [ob, ln, bdv, sv] at *; first | omega | assumption | (simp_all; done) | grind)))
    rw [loopR_ge (Nat.le_refl _)] at hz1; subst hz1; dsimp only at hR
    refine AWP.exit ?_; refine exitTo_here ?_
    refine AWP.seq ?_
    refine AWP.regS G_ok impl_ValidFaults_DD hc (by kernel_rfl) (fun K hK => ?_); simp only [ea, gv, sv, D_impl_Fault_valid, D_impl_Fault_compare, D_slices_ContainsFunc_Fault__impl_Fault_meets, D_impl_few, reduceCtorEq, reduceIte, Nat.reduceBEq, Nat.reduceAdd, Nat.reduceEqDiff, Nat.reduceLT, Nat.reduceLeDiff, Nat.reduceMul, Nat.reduceSub, BEq.rfl, beq_self_eq_true, Int.reduceToNat]
    first | refine hK _ ?_ | refine ⟨by (first | trivial | omega | (simp only [ob, ln, bdv, sv] at *; omega) | ((try clear hK K); (repeat' first | apply And.intro | intro _) <;> first | trivial | omega | assumption | solve_by_elim | (apply bd_getD <;> first | assumption | decide) | (apply bd_subL <;> first | assumption | decide) | (simp only [ob, ln, bdv, sv] at *; first | omega | assumption | (simp_all; done) | grind))), hK _ ?_⟩
    clear hK K
    refine AWP.ret ?_
    subst hR
    (simp only [en, si, ea, gv, sv, hk, reduceCtorEq, reduceIte, Nat.reduceBEq, Nat.reduceAdd, Nat.reduceEqDiff, Nat.reduceLT, Nat.reduceLeDiff, Nat.reduceMul, Nat.reduceSub, BEq.rfl, beq_self_eq_true, Int.reduceToNat]; first | done | trivial | (and_intros <;> first | rfl | trivial | omega | (rw [IntKind.wrap_i64]; omega) | (simp only [ln]; done) | (simp only [ob, ln, bdv, sv] at *; first | omega | grind) | (left; intro j hj; simp only [pw, Bool.cond_eq_ite, Bool.and_eq_true, decide_eq_true_eq]; (repeat' split) <;> simp [putL, NoBorL, NoBor]) | (intro j hj; simp only [pw, Bool.cond_eq_ite, Bool.and_eq_true, decide_eq_true_eq]; (try rw [subL_getD _ _ _ _ (by first | assumption | omega)]); (try rw [clearL_getD _ _ _ _ (by first | omega | (simp only [ob, ln, bdv] at *; omega))]); (repeat' split) <;> first | rfl | omega | exact simOL_refl _ | (simp_all; done) | (simp_all; rfl) | (simp_all; omega) | (simp_all; exact simOL_refl _) | (simp [putL, NoBorL, NoBor]; done))))

def D_impl_ValidFaults : DF
  | [x0] => some (.bool (impl_ValidFaults (rdL dFault x0)), false, [wL 4 eFault dFault x0, (rdL dFault x0).length < 1099511627776])
  | _ => none
theorem D_impl_ValidFaults_ok : OkD Try.prog 17 D_impl_ValidFaults := by
  intro xs r z ob h ho
  unfold D_impl_ValidFaults at h
  split at h
  · simp only [Option.some.injEq, Prod.mk.injEq] at h
    obtain ⟨rfl, rfl, rfl⟩ := h
    obtain ⟨h0, hb0, _⟩ := ho
    exact Den.sim (impl_ValidFaults_den _ hb0) (simOL_cons (wL_sim h0).1 <| trivial) (noIdL_cons (wL_sim h0).2 <| rfl) rfl
  · cases h
end Go.Ab

namespace Go.Ab
open Go Go.Proofs
theorem laws_eqFault_DD : DOk Try.prog (DD []) := DD_nil _
def laws_eqFault (a0 : Fault) (a1 : Fault) : Bool :=
  (bif (a0.Aid != a1.Aid) then false else (bif (a0.Kind != a1.Kind) then false else (bif (a0.From != a1.From) then false else (bif (a0.Until != a1.Until) then false else true))))

theorem laws_eqFault_den (a0 : Fault) (a1 : Fault)  : Den Try.prog 59 [.agg (eFault a0), .agg (eFault a1)] (.bool (laws_eqFault a0 a1)) := by
  generalize hR : laws_eqFault a0 a1 = r
  unfold laws_eqFault at hR
  refine den_intro G_ok Try.func59 (by kernel_rfl) rfl Try.ntmps59 (by rw [Try.results59]) (by simp) rfl ?_
  intro c hc hk
  simp only [pars, Nat.zero_add]
  refine AWP.seq ?_
  refine AWP.regS G_ok laws_eqFault_DD hc (by kernel_rfl) (fun K hK => ?_); simp only [ea, gv, sv, reduceCtorEq, reduceIte, Nat.reduceBEq, Nat.reduceAdd, Nat.reduceEqDiff, Nat.reduceLT, Nat.reduceLeDiff, Nat.reduceMul, Nat.reduceSub, BEq.rfl, beq_self_eq_true, Int.reduceToNat]
  first | refine hK _ ?_ | refine ⟨by (first | trivial | omega | (simp only [ob, ln, bdv, sv] at *; omega) | ((try clear hK K); (repeat' first | apply And.intro | intro _) <;> first | trivial | omega | assumption | solve_by_elim | (apply bd_getD <;> first | assumption | decide) | (apply bd_subL <;> first | assumption | decide) | (simp only [ob, ln, bdv, sv] at *; first | omega | assumption | (simp_all; done) | grind))), hK _ ?_⟩
  clear hK K
  refine AWP.seq ?_
  refine AWP.seq ?_
  refine AWP.regS G_ok laws_eqFault_DD hc (by kernel_rfl) (fun K hK => ?_); simp only [ea, gv, sv, reduceCtorEq, reduceIte, Nat.reduceBEq, Nat.reduceAdd, Nat.reduceEqDiff, Nat.reduceLT, Nat.reduceLeDiff, Nat.reduceMul, Nat.reduceSub, BEq.rfl, beq_self_eq_true, Int.reduceToNat]
  first | refine hK _ ?_ | refine ⟨by (first | trivial | omega | (simp only [ob, ln, bdv, sv] at *; omega) | ((try clear hK K); (repeat' first | apply And.intro | intro _) <;> first | trivial | omega | assumption | solve_by_elim | (apply bd_getD <;> first | assumption | decide) | (apply bd_subL <;> first | assumption | decide) | (simp only [ob, ln, bdv, sv] at *; first | omega | assumption | (simp_all; done) | grind))), hK _ ?_⟩
  clear hK K
  refine AWP.cond rfl (fun hb => ?_) (fun hb => ?_)
  · first | simp only [hb, cond_true] at hR | (simp only [*] at hb; simp only [hb, cond_true] at hR)
    refine AWP.seq ?_
    refine AWP.regS G_ok laws_eqFault_DD hc (by kernel_rfl) (fun K hK => ?_); simp only [ea, gv, sv, reduceCtorEq, reduceIte, Nat.reduceBEq, Nat.reduceAdd, Nat.reduceEqDiff, Nat.reduceLT, Nat.reduceLeDiff, Nat.reduceMul, Nat.reduceSub, BEq.rfl, beq_self_eq_true, Int.reduceToNat]
    first | refine hK _ ?_ | refine ⟨by (first | trivial | omega | (simp only [ob, ln, bdv, sv] at *; omega) | ((try clear hK K); (repeat' first | apply And.intro | intro _) <;> first | trivial | omega | assumption | solve_by_elim | (apply bd_getD <;> first | assumption | decide) | (apply bd_subL <;> first | assumption | decide) | (simp only [ob, ln, bdv, sv] at *; first | omega | assumption | (simp_all; done) | grind))), hK _ ?_⟩
    clear hK K
    refine AWP.ret ?_
    subst hR
    (simp only [en, si, ea, gv, sv, hk, reduceCtorEq, reduceIte, Nat.reduceBEq, Nat.reduceAdd, Nat.reduceEqDiff, Nat.reduceLT, Nat.reduceLeDiff, Nat.reduceMul, Nat.reduceSub, BEq.rfl, beq_self_eq_true, Int.reduceToNat]; first | done | trivial | (and_intros <;> first | rfl | trivial | omega | (rw [IntKind.wrap_i64]; omega) | (simp only [ln]; done) | (simp only [ob, ln, bdv, sv] at *; first | omega | grind) | (left; intro j hj; simp only [pw, Bool.cond_eq_ite, Bool.and_eq_true, decide_eq_true_eq]; (repeat' split) <;> simp [putL, NoBorL, NoBor]) | (intro j hj; simp only [pw, Bool.cond_eq_ite, Bool.and_eq_true, decide_eq_true_eq]; (try rw [subL_getD _ _ _ _ (by first | assumption | omega)]); (try rw [clearL_getD _ _ _ _ (by first | omega | (simp only [ob, ln, bdv] at *; omega))]); (repeat' split) <;> first | rfl | omega | exact simOL_refl _ | (simp_all; done) | (simp_all; rfl) | (simp_all; omega) | (simp_all; exact simOL_refl _) | (simp [putL, NoBorL, NoBor]; done))))
  · first | simp only [hb, cond_false] at hR | (simp only [*] at hb; simp only [hb, cond_false] at hR)
    refine AWP.skip ?_
    refine AWP.seq ?_
    refine AWP.seq ?_
    refine AWP.regS G_ok laws_eqFault_DD hc (by kernel_rfl) (fun K hK => ?_); simp only [ea, gv, sv, reduceCtorEq, reduceIte, Nat.reduceBEq, Nat.reduceAdd, Nat.reduceEqDiff, Nat.reduceLT, Nat.reduceLeDiff, Nat.reduceMul, Nat.reduceSub, BEq.rfl, beq_self_eq_true, Int.reduceToNat]
    first | refine hK _ ?_ | refine ⟨by (first | trivial | omega | (simp only [ob, ln, bdv, sv] at *; omega) | ((try clear hK K); (repeat' first | apply And.intro | intro _) <;> first | trivial | omega | assumption | solve_by_elim | (apply bd_getD <;> first | assumption | decide) | (apply bd_subL <;> first | assumption | decide) | (simp only [ob, ln, bdv, sv] at *; first | omega | assumption | (simp_all; done) | grind))), hK _ ?_⟩
    clear hK K
    refine AWP.cond rfl (fun hb => ?_) (fun hb => ?_)
    · first | simp only [hb, cond_true] at hR | (simp only [*] at hb; simp only [hb, cond_true] at hR)
      refine AWP.seq ?_
      refine AWP.regS G_ok laws_eqFault_DD hc (by kernel_rfl) (fun K hK => ?_); simp only [ea, gv, sv, reduceCtorEq, reduceIte, Nat.reduceBEq, Nat.reduceAdd, Nat.reduceEqDiff, Nat.reduceLT, Nat.reduceLeDiff, Nat.reduceMul, Nat.reduceSub, BEq.rfl, beq_self_eq_true, Int.reduceToNat]
      first | refine hK _ ?_ | refine ⟨by (first | trivial | omega | (simp only [ob, ln, bdv, sv] at *; omega) | ((try clear hK K); (repeat' first | apply And.intro | intro _) <;> first | trivial | omega | assumption | solve_by_elim | (apply bd_getD <;> first | assumption | decide) | (apply bd_subL <;> first | assumption | decide) | (simp only [ob, ln, bdv, sv] at *; first | omega | assumption | (simp_all; done) | grind))), hK _ ?_⟩
      clear hK K
      refine AWP.ret ?_
      subst hR
      (simp only [en, si, ea, gv, sv, hk, reduceCtorEq, reduceIte, Nat.reduceBEq, Nat.reduceAdd, Nat.reduceEqDiff, Nat.reduceLT, Nat.reduceLeDiff, Nat.reduceMul, Nat.reduceSub, BEq.rfl, beq_self_eq_true, Int.reduceToNat]; first | done | trivial | (and_intros <;> first | rfl | trivial | omega | (rw [IntKind.wrap_i64]; omega) | (simp only [ln]; done) | (simp only [ob, ln, bdv, sv] at *; first | omega | grind) | (left; intro j hj; simp only [pw, Bool.cond_eq_ite, Bool.and_eq_true, decide_eq_true_eq]; (repeat' split) <;> simp [putL, NoBorL, NoBor]) | (intro j hj; simp only [pw, Bool.cond_eq_ite, Bool.and_eq_true, decide_eq_true_eq]; (try rw [subL_getD _ _ _ _ (by first | assumption | omega)]); (try rw [clearL_getD _ _ _ _ (by first | omega | (simp only [ob, ln, bdv] at *; omega))]); (repeat' split) <;> first | rfl | omega | exact simOL_refl _ | (simp_all; done) | (simp_all; rfl) | (simp_all; omega) | (simp_all; exact simOL_refl _) | (simp [putL, NoBorL, NoBor]; done))))
    · first | simp only [hb, cond_false] at hR | (simp only [*] at hb; simp only [hb, cond_false] at hR)
      refine AWP.skip ?_
      refine AWP.seq ?_
      refine AWP.seq ?_
      refine AWP.regS G_ok laws_eqFault_DD hc (by kernel_rfl) (fun K hK => ?_); simp only [ea, gv, sv, reduceCtorEq, reduceIte, Nat.reduceBEq, Nat.reduceAdd, Nat.reduceEqDiff, Nat.reduceLT, Nat.reduceLeDiff, Nat.reduceMul, Nat.reduceSub, BEq.rfl, beq_self_eq_true, Int.reduceToNat]
      first | refine hK _ ?_ | refine ⟨by (first | trivial | omega | (simp only [ob, ln, bdv, sv] at *; omega) | ((try clear hK K); (repeat' first | apply And.intro | intro _) <;> first | trivial | omega | assumption | solve_by_elim | (apply bd_getD <;> first | assumption | decide) | (apply bd_subL <;> first | assumption | decide) | (simp only [ob, ln, bdv, sv] at *; first | omega | assumption | (simp_all; done) | grind))), hK _ ?_⟩
      clear hK K
      refine AWP.cond rfl (fun hb => ?_) (fun hb => ?_)
      · first | simp only [hb, cond_true] at hR | (simp only [*] at hb; simp only [hb, cond_true] at hR)
        refine AWP.seq ?_
        refine AWP.regS G_ok laws_eqFault_DD hc (by kernel_rfl) (fun K hK => ?_); simp only [ea, gv, sv, reduceCtorEq, reduceIte, Nat.reduceBEq, Nat.reduceAdd, Nat.reduceEqDiff, Nat.reduceLT, Nat.reduceLeDiff, Nat.reduceMul, Nat.reduceSub, BEq.rfl, beq_self_eq_true, Int.reduceToNat]
        first | refine hK _ ?_ | refine ⟨by (first | trivial | omega | (simp only [ob, ln, bdv, sv] at *; omega) | ((try clear hK K); (repeat' first | apply And.intro | intro _) <;> first | trivial | omega | assumption | solve_by_elim | (apply bd_getD <;> first | assumption | decide) | (apply bd_subL <;> first | assumption | decide) | (simp only [ob, ln, bdv, sv] at *; first | omega | assumption | (simp_all; done) | grind))), hK _ ?_⟩
        clear hK K
        refine AWP.ret ?_
        subst hR
        (simp only [en, si, ea, gv, sv, hk, reduceCtorEq, reduceIte, Nat.reduceBEq, Nat.reduceAdd, Nat.reduceEqDiff, Nat.reduceLT, Nat.reduceLeDiff, Nat.reduceMul, Nat.reduceSub, BEq.rfl, beq_self_eq_true, Int.reduceToNat]; first | done | trivial | (and_intros <;> first | rfl | trivial | omega | (rw [IntKind.wrap_i64]; omega) | (simp only [ln]; done) | (simp only [ob, ln, bdv, sv] at *; first | omega | grind) | (left; intro j hj; simp only [pw, Bool.cond_eq_ite, Bool.and_eq_true, decide_eq_true_eq]; (repeat' split) <;> simp [putL, NoBorL, NoBor]) | (intro j hj; simp only [pw, Bool.cond_eq_ite, Bool.and_eq_true, decide_eq_true_eq]; (try rw [subL_getD _ _ _ _ (by first | assumption | omega)]); (try rw [clearL_getD _ _ _ _ (by first | omega | (simp only [ob, ln, bdv] at *; omega))]); (repeat' split) <;> first | rfl | omega | exact simOL_refl _ | (simp_all; done) | (simp_all; rfl) | (simp_all; omega) | (simp_all; exact simOL_refl _) | (simp [putL, NoBorL, NoBor]; done))))
      · first | simp only [hb, cond_false] at hR | (simp only [*] at hb; simp only [hb, cond_false] at hR)
        refine AWP.skip ?_
        refine AWP.seq ?_
        refine AWP.seq ?_
        refine AWP.regS G_ok laws_eqFault_DD hc (by kernel_rfl) (fun K hK => ?_); simp only [ea, gv, sv, reduceCtorEq, reduceIte, Nat.reduceBEq, Nat.reduceAdd, Nat.reduceEqDiff, Nat.reduceLT, Nat.reduceLeDiff, Nat.reduceMul, Nat.reduceSub, BEq.rfl, beq_self_eq_true, Int.reduceToNat]
        first | refine hK _ ?_ | refine ⟨by (first | trivial | omega | (simp only [ob, ln, bdv, sv] at *; omega) | ((try clear hK K); (repeat' first | apply And.intro | intro _) <;> first | trivial | omega | assumption | solve_by_elim | (apply bd_getD <;> first | assumption | decide) | (apply bd_subL <;> first | assumption | decide) | (simp only [ob, ln, bdv, sv] at *; first | omega | assumption | (simp_all; done) | grind))), hK _ ?_⟩
        clear hK K
        refine AWP.cond rfl (fun hb => ?_) (fun hb => ?_)
        · first | simp only [hb, cond_true] at hR | (simp only [*] at hb; simp only [hb, cond_true] at hR)
          refine AWP.seq ?_
          refine AWP.regS G_ok laws_eqFault_DD hc (by kernel_rfl) (fun K hK => ?_); simp only [ea, gv, sv, reduceCtorEq, reduceIte, Nat.reduceBEq, Nat.reduceAdd, Nat.reduceEqDiff, Nat.reduceLT, Nat.reduceLeDiff, Nat.reduceMul, Nat.reduceSub, BEq.rfl, beq_self_eq_true, Int.reduceToNat]
          first | refine hK _ ?_ | refine ⟨by (first | trivial | omega | (simp only [ob, ln, bdv, sv] at *; omega) | ((try clear hK K); (repeat' first | apply And.intro | intro _) <;> first | trivial | omega | assumption | solve_by_elim | (apply bd_getD <;> first | assumption | decide) | (apply bd_subL <;> first | assumption | decide) | (simp only [ob, ln, bdv, sv] at *; first | omega | assumption | (simp_all; done) | grind))), hK _ ?_⟩
          clear hK K
          refine AWP.ret ?_
          subst hR
          (simp only [en, si, ea, gv, sv, hk, reduceCtorEq, reduceIte, Nat.reduceBEq, Nat.reduceAdd, Nat.reduceEqDiff, Nat.reduceLT, Nat.reduceLeDiff, Nat.reduceMul, Nat.reduceSub, BEq.rfl, beq_self_eq_true, Int.reduceToNat]; first | done | trivial | (and_intros <;> first | rfl | trivial | omega | (rw [IntKind.wrap_i64]; omega) | (simp only [ln]; done) | (simp only [ob, ln, bdv, sv] at *; first | omega | grind) | (left; intro j hj; simp only [pw, Bool.cond_eq_ite, Bool.and_eq_true, decide_eq_true_eq]; (repeat' split) <;> simp [putL, NoBorL, NoBor]) | (intro j hj; simp only [pw, Bool.cond_eq_ite, Bool.and_eq_true, decide_eq_true_eq]; (try rw [subL_getD _ _ _ _ (by first | assumption | omega)]); (try rw [clearL_getD _ _ _ _ (by first | omega | (simp only [ob, ln, bdv] at *; omega))]); (repeat' split) <;> first | rfl | omega | exact simOL_refl _ | (simp_all; done) | (simp_all; rfl) | (simp_all; omega) | (simp_all; exact simOL_refl _) | (simp [putL, NoBorL, NoBor]; done))))
        · first | simp only [hb, cond_false] at hR | (simp only [*] at hb; simp only [hb, cond_false] at hR)
          refine AWP.skip ?_
          refine AWP.seq ?_
          refine AWP.regS G_ok laws_eqFault_DD hc (by kernel_rfl) (fun K hK => ?_); simp only [ea, gv, sv, reduceCtorEq, reduceIte, Nat.reduceBEq, Nat.reduceAdd, Nat.reduceEqDiff, Nat.reduceLT, Nat.reduceLeDiff, Nat.reduceMul, Nat.reduceSub, BEq.rfl, beq_self_eq_true, Int.reduceToNat]
          first | refine hK _ ?_ | refine ⟨by (first | trivial | omega | (simp only [ob, ln, bdv, sv] at *; omega) | ((try clear hK K); (repeat' first | apply And.intro | intro _) <;> first | trivial | omega | assumption | solve_by_elim | (apply bd_getD <;> first | assumption | decide) | (apply bd_subL <;> first | assumption | decide) | (simp only [ob, ln, bdv, sv] at *; first | omega | assumption | (simp_all; done) | grind))), hK _ ?_⟩
          clear hK K
          refine AWP.ret ?_
          subst hR
          (simp only [en, si, ea, gv, sv, hk, reduceCtorEq, reduceIte, Nat.reduceBEq, Nat.reduceAdd, Nat.reduceEqDiff, Nat.reduceLT, Nat.reduceLeDiff, Nat.reduceMul, Nat.reduceSub, BEq.rfl, beq_self_eq_true, Int.reduceToNat]; first | done | trivial | (and_intros <;> first | rfl | trivial | omega | (rw [IntKind.wrap_i64]; omega) | (simp only [ln]; done) | (simp only [ob, ln, bdv, sv] at *; first | omega | grind) | (left; intro j hj; simp only [pw, Bool.cond_eq_ite, Bool.and_eq_true, decide_eq_true_eq]; (repeat' split) <;> simp [putL, NoBorL, NoBor]) | (intro j hj; simp only [pw, Bool.cond_eq_ite, Bool.and_eq_true, decide_eq_true_eq]; (try rw [subL_getD _ _ _ _ (by first | assumption | omega)]); (try rw [clearL_getD _ _ _ _ (by first | omega | (simp only [ob, ln, bdv] at *; omega))]); (repeat' split) <;> first | rfl | omega | exact simOL_refl _ | (simp_all; done) | (simp_all; rfl) | (simp_all; omega) | (simp_all; exact simOL_refl _) | (simp [putL, NoBorL, NoBor]; done))))

def D_laws_eqFault : DF
  | [x0, x1] => some (.bool (laws_eqFault (rdG dFault x0) (rdG dFault x1)), false, [wG eFault dFault x0, wG eFault dFault x1])
  | _ => none
theorem D_laws_eqFault_ok : OkD Try.prog 59 D_laws_eqFault := by
  intro xs r z ob h ho
  unfold D_laws_eqFault at h
  split at h
  · simp only [Option.some.injEq, Prod.mk.injEq] at h
    obtain ⟨rfl, rfl, rfl⟩ := h
    obtain ⟨h0, h1, _⟩ := ho
    exact Den.sim (laws_eqFault_den _ _ ) (simOL_cons (wG_sim h0).1 <| simOL_cons (wG_sim h1).1 <| trivial) (noIdL_cons (wG_sim h0).2 <| noIdL_cons (wG_sim h1).2 <| rfl) rfl
  · cases h
end Go.Ab

namespace Go.Ab
open Go Go.Proofs
theorem laws_eqFaultS_DD : DOk Try.prog (DD [(59, dP D_laws_eqFault)]) := DD_cons D_laws_eqFault_ok.e <| DD_nil _
def laws_eqFaultS_b1 (a0 : (List Fault)) (a1 : (List Fault)) (i1 : Nat) (s1 : Unit) : Except (Bool) (Unit) :=
  (bif (!(laws_eqFault (a0.getD i1 default) (a1.getD i1 default))) then .error false else .ok ())

def laws_eqFaultS (a0 : (List Fault)) (a1 : (List Fault)) : Bool :=
  (bif ((a0.length : Int) != (a1.length : Int)) then false else (match loopR (laws_eqFaultS_b1 a0 a1) (a0.length - 0) 0 () with | .error e => e | .ok s1 => true))

theorem laws_eqFaultS_den (a0 : (List Fault)) (a1 : (List Fault)) (hb0 : a0.length < 1099511627776) (hb1 : a1.length < 1099511627776) : Den Try.prog 18 [encL 4 eFault a0, encL 4 eFault a1] (.bool (laws_eqFaultS a0 a1)) := by
  generalize hR : laws_eqFaultS a0 a1 = r
  unfold laws_eqFaultS at hR
  refine den_intro G_ok Try.func18 (by kernel_rfl) rfl Try.ntmps18 (by rw [Try.results18]) (by simp) rfl ?_
  intro c hc hk
  simp only [pars, Nat.zero_add]
  refine AWP.seq ?_
  refine AWP.regS G_ok laws_eqFaultS_DD hc (by kernel_rfl) (fun K hK => ?_); simp only [ea, gv, sv, D_laws_eqFault, reduceCtorEq, reduceIte, Nat.reduceBEq, Nat.reduceAdd, Nat.reduceEqDiff, Nat.reduceLT, Nat.reduceLeDiff, Nat.reduceMul, Nat.reduceSub, BEq.rfl, beq_self_eq_true, Int.reduceToNat]
  first | refine hK _ ?_ | refine ⟨by (first | trivial | omega | (simp only [ob, ln, bdv, sv] at *; omega) | ((try clear hK K); (repeat' first | apply And.intro | intro _) <;> first | trivial | omega | assumption | solve_by_elim | (apply bd_getD <;> first | assumption | decide) | (apply bd_subL <;> first | assumption | decide) | (simp only [ob, ln, bdv, sv] at *; first | omega | assumption | (simp_all; done) | grind))), hK _ ?_⟩
  clear hK K
  refine AWP.seq ?_
  refine AWP.seq ?_
  refine AWP.regS G_ok laws_eqFaultS_DD hc (by kernel_rfl) (fun K hK => ?_); simp only [ea, gv, sv, D_laws_eqFault, reduceCtorEq, reduceIte, Nat.reduceBEq, Nat.reduceAdd, Nat.reduceEqDiff, Nat.reduceLT, Nat.reduceLeDiff, Nat.reduceMul, Nat.reduceSub, BEq.rfl, beq_self_eq_true, Int.reduceToNat]
  first | refine hK _ ?_ | refine ⟨by (first | trivial | omega | (simp only [ob, ln, bdv, sv] at *; omega) | ((try clear hK K); (repeat' first | apply And.intro | intro _) <;> first | trivial | omega | assumption | solve_by_elim | (apply bd_getD <;> first | assumption | decide) | (apply bd_subL <;> first | assumption | decide) | (simp only [ob, ln, bdv, sv] at *; first | omega | assumption | (simp_all; done) | grind))), hK _ ?_⟩
  clear hK K
  refine AWP.cond rfl (fun hb => ?_) (fun hb => ?_)
  · first | simp only [hb, cond_true] at hR | (simp only [*] at hb; simp only [hb, cond_true] at hR)
    refine AWP.seq ?_
    refine AWP.regS G_ok laws_eqFaultS_DD hc (by kernel_rfl) (fun K hK => ?_); simp only [ea, gv, sv, D_laws_eqFault, reduceCtorEq, reduceIte, Nat.reduceBEq, Nat.reduceAdd, Nat.reduceEqDiff, Nat.reduceLT, Nat.reduceLeDiff, Nat.reduceMul, Nat.reduceSub, BEq.rfl, beq_self_eq_true, Int.reduceToNat]
    first | refine hK _ ?_ | refine ⟨by (first | trivial | omega | (simp only [ob, ln, bdv, sv] at *; omega) | ((try clear hK K); (repeat' first | apply And.intro | intro _) <;> first | trivial | omega | assumption | solve_by_elim | (apply bd_getD <;> first | assumption | decide) | (apply bd_subL <;> first | assumption | decide) | (simp only [ob, ln, bdv, sv] at *; first | omega | assumption | (simp_all; done) | grind))), hK _ ?_⟩
    clear hK K
    refine AWP.ret ?_
    subst hR
    (simp only [en, si, ea, gv, sv, hk, reduceCtorEq, reduceIte, Nat.reduceBEq, Nat.reduceAdd, Nat.reduceEqDiff, Nat.reduceLT, Nat.reduceLeDiff, Nat.reduceMul, Nat.reduceSub, BEq.rfl, beq_self_eq_true, Int.reduceToNat]; first | done | trivial | (and_intros <;> first | rfl | trivial | omega | (rw [IntKind.wrap_i64]; omega) | (simp only [ln]; done) | (simp only [ob, ln, bdv, sv] at *; first | omega | grind) | (left; intro j hj; simp only [pw, Bool.cond_eq_ite, Bool.and_eq_true, decide_eq_true_eq]; (repeat' split) <;> simp [putL, NoBorL, NoBor]) | (intro j hj; simp only [pw, Bool.cond_eq_ite, Bool.and_eq_true, decide_eq_true_eq]; (try rw [subL_getD _ _ _ _ (by first | assumption | omega)]); (try rw [clearL_getD _ _ _ _ (by first | omega | (simp only [ob, ln, bdv] at *; omega))]); (repeat' split) <;> first | rfl | omega | exact simOL_refl _ | (simp_all; done) | (simp_all; rfl) | (simp_all; omega) | (simp_all; exact simOL_refl _) | (simp [putL, NoBorL, NoBor]; done))))
  · first | simp only [hb, cond_false] at hR | (simp only [*] at hb; simp only [hb, cond_false] at hR)
    refine AWP.skip ?_
    refine AWP.seq ?_
    refine AWP.seq ?_
    refine AWP.regS G_ok laws_eqFaultS_DD hc (by kernel_rfl) (fun K hK => ?_); simp only [ea, gv, sv, D_laws_eqFault, reduceCtorEq, reduceIte, Nat.reduceBEq, Nat.reduceAdd, Nat.reduceEqDiff, Nat.reduceLT, Nat.reduceLeDiff, Nat.reduceMul, Nat.reduceSub, BEq.rfl, beq_self_eq_true, Int.reduceToNat]
    first | refine hK _ ?_ | refine ⟨by (first | trivial | omega | (simp only [ob, ln, bdv, sv] at *; omega) | ((try clear hK K); (repeat' first | apply And.intro | intro _) <;> first | trivial | omega | assumption | solve_by_elim | (apply bd_getD <;> first | assumption | decide) | (apply bd_subL <;> first | assumption | decide) | (simp only [ob, ln, bdv, sv] at *; first | omega | assumption | (simp_all; done) | grind))), hK _ ?_⟩
    clear hK K
    refine AWP.block ?_
    generalize hz1 : loopR (laws_eqFaultS_b1 a0 a1) (a0.length - 0) 0 () = z1 at hR
    refine AWP.range (laws_eqFaultS_b1 a0 a1) (fun i1 s1 => ⟨[(0, encL 4 eFault a0), (1, encL 4 eFault a1), (5, .int .i64 (i1 : Int))], []⟩) (fun i1 s1 => True) (a0.length) 0 () [] hz1 (by (first | trivial | omega | (simp only [ob, ln, bdv, sv] at *; omega) | ((try clear hK K); (repeat' first | apply And.intro | intro _) <;> first | trivial | omega | assumption | solve_by_elim | (apply bd_getD <;> first | assumption | decide) | (apply bd_subL <;> first | assumption | decide) | (simp only [ob, ln, bdv, sv] at *; first | omega | assumption | (simp_all; done) | grind)))) (by (first | trivial | (and_intros <;> simp only [ln] <;> omega) | (and_intros <;> simp only [ob, ln] at * <;> omega) | (and_intros <;> first | trivial | omega | assumption | (apply bd_set <;> first | assumption | (apply bd_getD <;> first | assumption | decide)) | (apply bd_app <;> first | assumption | (apply bd_getD <;> first | assumption | decide)) | (simp only [ob, ln, bdv, sv] at *; omega) | (simp; done)))) (by (simp only [si, ea, gv, sv, hk, reduceCtorEq, reduceIte, Nat.reduceBEq, Nat.reduceAdd, Nat.reduceEqDiff, Nat.reduceLT, Nat.reduceLeDiff, Nat.reduceMul, Nat.reduceSub, BEq.rfl, beq_self_eq_true, Int.reduceToNat]; first | done | trivial | (and_intros <;> first | rfl | trivial | omega | (rw [IntKind.wrap_i64]; omega) | (simp only [ln]; done) | (simp only [ob, ln, bdv, sv] at *; first | omega | grind) | (left; intro j hj; simp only [pw, Bool.cond_eq_ite, Bool.and_eq_true, decide_eq_true_eq]; (repeat' split) <;> simp [putL, NoBorL, NoBor]) | (intro j hj; simp only [pw, Bool.cond_eq_ite, Bool.and_eq_true, decide_eq_true_eq]; (try rw [subL_getD _ _ _ _ (by first | assumption | omega)]); (try rw [clearL_getD _ _ _ _ (by first | omega | (simp only [ob, ln, bdv] at *; omega))]); (repeat' split) <;> first | rfl | omega | exact simOL_refl _ | (simp_all; done) | (simp_all; rfl) | (simp_all; omega) | (simp_all; exact simOL_refl _) | (simp [putL, NoBorL, NoBor]; done))))) ?_
    clear hz1
    intro i1 s1 hi1 hW1 hz1
    refine AWP.seq ?_
    refine AWP.seq ?_
    refine AWP.regS G_ok laws_eqFaultS_DD hc (by kernel_rfl) (fun K hK => ?_); simp only [ea, gv, sv, D_laws_eqFault, reduceCtorEq, reduceIte, Nat.reduceBEq, Nat.reduceAdd, Nat.reduceEqDiff, Nat.reduceLT, Nat.reduceLeDiff, Nat.reduceMul, Nat.reduceSub, BEq.rfl, beq_self_eq_true, Int.reduceToNat]
    first | refine hK _ ?_ | refine ⟨by (first | trivial | omega | (simp only [ob, ln, bdv, sv] at *; omega) | ((try clear hK K); (repeat' first | apply And.intro | intro _) <;> first | trivial | omega | assumption | solve_by_elim | (apply bd_getD <;> first | assumption | decide) | (apply bd_subL <;> first | assumption | decide) | (simp only [ob, ln, bdv, sv] at *; first | omega | assumption | (simp_all; done) | grind))), hK _ ?_⟩
    clear hK K
    refine AWP.cond rfl (fun hb => ?_) (fun hb => ?_)
    · have hlt1 : i1 < a0.length := by (first | trivial | omega | (simp only [ob, ln, bdv, sv] at *; omega) | ((try clear hK K); (repeat' first | apply And.intro | intro _) <;> first | trivial | omega | assumption | solve_by_elim | (apply bd_getD <;> first | assumption | decide) | (apply bd_subL <;> first | assumption | decide) | (simp only [ob, ln, bdv, sv] at *; first | omega | assumption | (simp_all; done) | grind)))
      rw [loopR_lt hlt1] at hz1; simp only [laws_eqFaultS_b1] at hz1
      refine AWP.skip ?_
      refine AWP.seq ?_
      refine AWP.block ?_
      refine AWP.seq ?_
      refine AWP.regM mixed G_ok laws_eqFaultS_DD hc (by kernel_rfl) (by kernel_rfl) (fun K hK => ?_); simp only [ea, gv, sv, D_laws_eqFault, reduceCtorEq, reduceIte, Nat.reduceBEq, Nat.reduceAdd, Nat.reduceEqDiff, Nat.reduceLT, Nat.reduceLeDiff, Nat.reduceMul, Nat.reduceSub, BEq.rfl, beq_self_eq_true, Int.reduceToNat]
      first | refine hK _ ?_ | refine ⟨by (first | trivial | omega | (simp only [ob, ln, bdv, sv] at *; omega) | ((try clear hK K); (repeat' first | apply And.intro | intro _) <;> first | trivial | omega | assumption | solve_by_elim | (apply bd_getD <;> first | assumption | decide) | (apply bd_subL <;> first | assumption | decide) | (simp only [ob, ln, bdv, sv] at *; first | omega | assumption | (simp_all; done) | grind))), hK _ ?_⟩
      clear hK K
      refine AWP.cond rfl (fun hb => ?_) (fun hb => ?_)
      · first | simp only [hb, cond_true] at hz1 | (simp only [*] at hb; simp only [hb, cond_true] at hz1)
        refine AWP.seq ?_
        refine AWP.regS G_ok laws_eqFaultS_DD hc (by kernel_rfl) (fun K hK => ?_); simp only [ea, gv, sv, D_laws_eqFault, reduceCtorEq, reduceIte, Nat.reduceBEq, Nat.reduceAdd, Nat.reduceEqDiff, Nat.reduceLT, Nat.reduceLeDiff, Nat.reduceMul, Nat.reduceSub, BEq.rfl, beq_self_eq_true, Int.reduceToNat]
        first | refine hK _ ?_ | refine ⟨by (first | trivial | omega | (simp only [ob, ln, bdv, sv] at *; omega) | ((try clear hK K); (repeat' first | apply And.intro | intro _) <;> first | trivial | omega | assumption | solve_by_elim | (apply bd_getD <;> first | assumption | decide) | (apply bd_subL <;> first | assumption | decide) | (simp only [ob, ln, bdv, sv] at *; first | omega | assumption | (simp_all; done) | grind))), hK _ ?_⟩
        clear hK K
        refine AWP.ret ?_
        subst hz1
        dsimp only at hR
        subst hR
        (simp only [en, si, ea, gv, sv, hk, reduceCtorEq, reduceIte, Nat.reduceBEq, Nat.reduceAdd, Nat.reduceEqDiff, Nat.reduceLT, Nat.reduceLeDiff, Nat.reduceMul, Nat.reduceSub, BEq.rfl, beq_self_eq_true, Int.reduceToNat]; first | done | trivial | (and_intros <;> first | rfl | trivial | omega | (rw [IntKind.wrap_i64]; omega) | (simp only [ln]; done) | (simp only [ob, ln, bdv, sv] at *; first | omega | grind) | (left; intro j hj; simp only [pw, Bool.cond_eq_ite, Bool.and_eq_true, decide_eq_true_eq]; (repeat' split) <;> simp [putL, NoBorL, NoBor]) | (intro j hj; simp only [pw, Bool.cond_eq_ite, Bool.and_eq_true, decide_eq_true_eq]; (try rw [subL_getD _ _ _ _ (by first | assumption | omega)]); (try rw [clearL_getD _ _ _ _ (by first | omega | (simp only [ob, ln, bdv] at *; omega))]); (repeat' split) <;> first | rfl | omega | exact simOL_refl _ | (simp_all; done) | (simp_all; rfl) | (simp_all; omega) | (simp_all; exact simOL_refl _) | (simp [putL, NoBorL, NoBor]; done))))
      · first | simp only [hb, cond_false] at hz1 | (simp only [*] at hb; simp only [hb, cond_false] at hz1)
        refine AWP.skip ?_
        refine AWP.regS G_ok laws_eqFaultS_DD hc (by kernel_rfl) (fun K hK => ?_); simp only [ea, gv, sv, D_laws_eqFault, reduceCtorEq, reduceIte, Nat.reduceBEq, Nat.reduceAdd, Nat.reduceEqDiff, Nat.reduceLT, Nat.reduceLeDiff, Nat.reduceMul, Nat.reduceSub, BEq.rfl, beq_self_eq_true, Int.reduceToNat]
        first | refine hK _ ?_ | refine ⟨by (first | trivial | omega | (simp only [ob, ln, bdv, sv] at *; omega) | ((try clear hK K); (repeat' first | apply And.intro | intro _) <;> first | trivial | omega | assumption | solve_by_elim | (apply bd_getD <;> first | assumption | decide) | (apply bd_subL <;> first | assumption | decide) | (simp only [ob, ln, bdv, sv] at *; first | omega | assumption | (simp_all; done) | grind))), hK _ ?_⟩
        clear hK K
        exact ⟨_, [], hlt1, by (first | trivial | (and_intros <;> simp only [ln] <;> omega) | (and_intros <;> simp only [ob, ln] at * <;> omega) | (and_intros <;> first | trivial | omega | assumption | (apply bd_set <;> first | assumption | (apply bd_getD <;> first | assumption | decide)) | (apply bd_app <;> first | assumption | (apply bd_getD <;> first | assumption | decide)) | (simp only [ob, ln, bdv, sv] at *; omega) | (simp; done))), hz1, by (simp only [si, ea, gv, sv, hk, reduceCtorEq, reduceIte, Nat.reduceBEq, Nat.reduceAdd, Nat.reduceEqDiff, Nat.reduceLT, Nat.reduceLeDiff, Nat.reduceMul, Nat.reduceSub, BEq.rfl, beq_self_eq_true, Int.reduceToNat]; first | done | trivial | (and_intros <;> first | rfl | trivial | omega | (rw [IntKind.wrap_i64]; omega) | (simp only [ln]; done) | (simp only [ob, ln, bdv, sv] at *; first | omega | grind) | (left; intro j hj; simp only [pw, Bool.cond_eq_ite, Bool.and_eq_true, decide_eq_true_eq]; (repeat' split) <;> simp [putL, NoBorL, NoBor]) | (intro j hj; simp only [pw, Bool.cond_eq_ite, Bool.and_eq_true, decide_eq_true_eq]; (try rw [subL_getD _ _ _ _ (by first | assumption | omega)]); (try rw [clearL_getD _ _ _ _ (by first | omega | (simp only [ob, ln, bdv] at *; omega))]); (repeat' split) <;> first | rfl | omega | exact simOL_refl _ | (simp_all; done) | (simp_all; rfl) | (simp_all; omega) | (simp_all; exact simOL_refl _) | (simp [putL, NoBorL, NoBor]; done))))⟩
    · obtain rfl : i1 = a0.length := by (first | trivial | omega | (simp only [ob, ln, bdv, sv] at *; omega) | ((try clear hK K); (repeat' first | apply And.intro | intro _) <;> first | trivial | omega | assumption | solve_by_elim | (apply bd_getD <;> first | assumption | decide) | (apply bd_subL <;> first | assumption | decide) | (simp only [ob, ln, bdv, sv] at *; first | omega | assumption | (simp_all; done) | grind)))
      rw [loopR_ge (Nat.le_refl _)] at hz1; subst hz1; dsimp only at hR
      refine AWP.exit ?_; refine exitTo_here ?_
      refine AWP.seq ?_
      refine AWP.regS G_ok laws_eqFaultS_DD hc (by kernel_rfl) (fun K hK => ?_); simp only [ea, gv, sv, D_laws_eqFault, reduceCtorEq, reduceIte, Nat.reduceBEq, Nat.reduceAdd, Nat.reduceEqDiff, Nat.reduceLT, Nat.reduceLeDiff, Nat.reduceMul, Nat.reduceSub, BEq.rfl, beq_self_eq_true, Int.reduceToNat]
      first | refine hK _ ?_ | refine ⟨by (first | trivial | omega | (simp only [ob, ln, bdv, sv] at *; omega) | ((try clear hK K); (repeat' first | apply And.intro | intro _) <;> first | trivial | omega | assumption | solve_by_elim | (apply bd_getD <;> first | assumption | decide) | (apply bd_subL <;> first | assumption | decide) | (simp only [ob, ln, bdv, sv] at *; first | omega | assumption | (simp_all; done) | grind))), hK _ ?_⟩
      clear hK K
      refine AWP.ret ?_
      subst hR
      (simp only [en, si, ea, gv, sv, hk, reduceCtorEq, reduceIte, Nat.reduceBEq, Nat.reduceAdd, Nat.reduceEqDiff, Nat.reduceLT, Nat.reduceLeDiff, Nat.reduceMul, Nat.reduceSub, BEq.rfl, beq_self_eq_true, Int.reduceToNat]; first | done | trivial | (and_intros <;> first | rfl | trivial | omega | (rw [IntKind.wrap_i64]; omega) | (simp only [ln]; done) | (simp only [ob, ln, bdv, sv] at *; first | omega | grind) | (left; intro j hj; simp only [pw, Bool.cond_eq_ite, Bool.and_eq_true, decide_eq_true_eq]; (repeat' split) <;> simp [putL, NoBorL, NoBor]) | (intro j hj; simp only [pw, Bool.cond_eq_ite, Bool.and_eq_true, decide_eq_true_eq]; (try rw [subL_getD _ _ _ _ (by first | assumption | omega)]); (try rw [clearL_getD _ _ _ _ (by first | omega | (simp only [ob, ln, bdv] at *; omega))]); (repeat' split) <;> first | rfl | omega | exact simOL_refl _ | (simp_all; done) | (simp_all; rfl) | (simp_all; omega) | (simp_all; exact simOL_refl _) | (simp [putL, NoBorL, NoBor]; done))))

def D_laws_eqFaultS : DF
  | [x0, x1] => some (.bool (laws_eqFaultS (rdL dFault x0) (rdL dFault x1)), false, [wL 4 eFault dFault x0, wL 4 eFault dFault x1, (rdL dFault x0).length < 1099511627776, (rdL dFault x1).length < 1099511627776])
  | _ => none
theorem D_laws_eqFaultS_ok : OkD Try.prog 18 D_laws_eqFaultS := by
  intro xs r z ob h ho
  unfold D_laws_eqFaultS at h
  split at h
  · simp only [Option.some.injEq, Prod.mk.injEq] at h
    obtain ⟨rfl, rfl, rfl⟩ := h
    obtain ⟨h0, h1, hb0, hb1, _⟩ := ho
    exact Den.sim (laws_eqFaultS_den _ _ hb0 hb1) (simOL_cons (wL_sim h0).1 <| simOL_cons (wL_sim h1).1 <| trivial) (noIdL_cons (wL_sim h0).2 <| noIdL_cons (wL_sim h1).2 <| rfl) rfl
  · cases h
end Go.Ab

namespace Go.Ab
open Go Go.Proofs
theorem laws_szFaultS_facts (a : List Fault) (n : Int) (h0 : -1 ≤ n) (h1 : n ≤ 1048576) (hl : a.length < 9223372036854775808) :
    -1 ≤ laws_szFaultS a n ∧ laws_szFaultS a n ≤ n ∧ (¬ laws_szFaultS a n < 0 → a.length ≤ 1048576) := by
  unfold laws_szFaultS
  rw [IntKind.wrap_i64]
  cases hd : decide ((n - (a.length : Int) + 9223372036854775808) % 18446744073709551616 - 9223372036854775808 < 0) with
  | true => simp; omega
  | false =>
    simp only [cond_false]
    have hd2 := of_decide_eq_false hd
    omega
end Go.Ab

namespace Go.Ab
open Go Go.Proofs
theorem laws_toFault_id (v : Fault) : laws_toFault v = v := rfl
theorem laws_toFaultS_id (a : List Fault) : laws_toFaultS a = a := by
  unfold laws_toFaultS
  rw [loopR_fill (b := laws_toFaultS_b1 a) (fun i => laws_toFault (a.getD i default)) (by simp) (fun i s _ => rfl)]
  simp only [laws_toFault_id]
  exact range_getD a
end Go.Ab

namespace Go.Ab
open Go Go.Proofs
theorem laws_FnExactValidFaults_DD : DOk Try.prog (DD [(14, dP D_laws_szFaultS), (15, dP D_spec_ValidFaults), (16, dP D_laws_toFaultS), (17, dP D_impl_ValidFaults), (18, dP D_laws_eqFaultS)]) := DD_cons D_laws_szFaultS_ok.e <| DD_cons D_spec_ValidFaults_ok.e <| DD_cons D_laws_toFaultS_ok.e <| DD_cons D_impl_ValidFaults_ok.e <| DD_cons D_laws_eqFaultS_ok.e <| DD_nil _
def laws_FnExactValidFaults (a0 : (List Fault)) : Bool :=
  (bif decide ((laws_szFaultS a0 1048576) < 0) then true else (bif (!((impl_ValidFaults (laws_toFaultS a0)) == (spec_ValidFaults (laws_toFaultS a0)))) then false else (bif (!(laws_eqFaultS (laws_toFaultS a0) (laws_toFaultS a0))) then false else true)))

theorem laws_FnExactValidFaults_den (a0 : (List Fault)) (hb0 : a0.length < 9223372036854775808) : Den Try.prog 3 [encL 4 eFault a0] (.bool (laws_FnExactValidFaults a0)) := by
  generalize hR : laws_FnExactValidFaults a0 = r
  unfold laws_FnExactValidFaults at hR
  refine den_intro G_ok Try.func3 (by kernel_rfl) rfl Try.ntmps3 (by rw [Try.results3]) (by simp) rfl ?_
  intro c hc hk
  simp only [pars, Nat.zero_add]
  have hf0 := laws_szFaultS_facts a0 (1048576) (by omega) (by omega) hb0
  refine AWP.seq ?_
  refine AWP.regS G_ok laws_FnExactValidFaults_DD hc (by kernel_rfl) (fun K hK => ?_); simp only [ea, gv, sv, D_laws_szFaultS, D_spec_ValidFaults, D_laws_toFaultS, D_impl_ValidFaults, D_laws_eqFaultS, reduceCtorEq, reduceIte, Nat.reduceBEq, Nat.reduceAdd, Nat.reduceEqDiff, Nat.reduceLT, Nat.reduceLeDiff, Nat.reduceMul, Nat.reduceSub, BEq.rfl, beq_self_eq_true, Int.reduceToNat]
  first | refine hK _ ?_ | refine ⟨by (first | trivial | omega | (simp only [ob, ln, bdv, laws_toFaultS_id, sv] at *; omega) | ((try clear hK K); (repeat' first | apply And.intro | intro _) <;> first | trivial | omega | assumption | solve_by_elim | (apply bd_getD <;> first | assumption | decide) | (apply bd_subL <;> first | assumption | decide) | (simp only [ob, ln, bdv, laws_toFaultS_id, sv] at *; first | omega | assumption | (simp_all; done) | grind))), hK _ ?_⟩
  clear hK K
  refine AWP.seq ?_
  refine AWP.regS G_ok laws_FnExactValidFaults_DD hc (by kernel_rfl) (fun K hK => ?_); simp only [ea, gv, sv, D_laws_szFaultS, D_spec_ValidFaults, D_laws_toFaultS, D_impl_ValidFaults, D_laws_eqFaultS, reduceCtorEq, reduceIte, Nat.reduceBEq, Nat.reduceAdd, Nat.reduceEqDiff, Nat.reduceLT, Nat.reduceLeDiff, Nat.reduceMul, Nat.reduceSub, BEq.rfl, beq_self_eq_true, Int.reduceToNat]
  first | refine hK _ ?_ | refine ⟨by (first | trivial | omega | (simp only [ob, ln, bdv, laws_toFaultS_id, sv] at *; omega) | ((try clear hK K); (repeat' first | apply And.intro | intro _) <;> first | trivial | omega | assumption | solve_by_elim | (apply bd_getD <;> first | assumption | decide) | (apply bd_subL <;> first | assumption | decide) | (simp only [ob, ln, bdv, laws_toFaultS_id, sv] at *; first | omega | assumption | (simp_all; done) | grind))), hK _ ?_⟩
  clear hK K
  refine AWP.seq ?_
  refine AWP.regS G_ok laws_FnExactValidFaults_DD hc (by kernel_rfl) (fun K hK => ?_); simp only [ea, gv, sv, D_laws_szFaultS, D_spec_ValidFaults, D_laws_toFaultS, D_impl_ValidFaults, D_laws_eqFaultS, reduceCtorEq, reduceIte, Nat.reduceBEq, Nat.reduceAdd, Nat.reduceEqDiff, Nat.reduceLT, Nat.reduceLeDiff, Nat.reduceMul, Nat.reduceSub, BEq.rfl, beq_self_eq_true, Int.reduceToNat]
  first | refine hK _ ?_ | refine ⟨by (first | trivial | omega | (simp only [ob, ln, bdv, laws_toFaultS_id, sv] at *; omega) | ((try clear hK K); (repeat' first | apply And.intro | intro _) <;> first | trivial | omega | assumption | solve_by_elim | (apply bd_getD <;> first | assumption | decide) | (apply bd_subL <;> first | assumption | decide) | (simp only [ob, ln, bdv, laws_toFaultS_id, sv] at *; first | omega | assumption | (simp_all; done) | grind))), hK _ ?_⟩
  clear hK K
  refine AWP.seq ?_
  refine AWP.seq ?_
  refine AWP.regS G_ok laws_FnExactValidFaults_DD hc (by kernel_rfl) (fun K hK => ?_); simp only [ea, gv, sv, D_laws_szFaultS, D_spec_ValidFaults, D_laws_toFaultS, D_impl_ValidFaults, D_laws_eqFaultS, reduceCtorEq, reduceIte, Nat.reduceBEq, Nat.reduceAdd, Nat.reduceEqDiff, Nat.reduceLT, Nat.reduceLeDiff, Nat.reduceMul, Nat.reduceSub, BEq.rfl, beq_self_eq_true, Int.reduceToNat]
  first | refine hK _ ?_ | refine ⟨by (first | trivial | omega | (simp only [ob, ln, bdv, laws_toFaultS_id, sv] at *; omega) | ((try clear hK K); (repeat' first | apply And.intro | intro _) <;> first | trivial | omega | assumption | solve_by_elim | (apply bd_getD <;> first | assumption | decide) | (apply bd_subL <;> first | assumption | decide) | (simp only [ob, ln, bdv, laws_toFaultS_id, sv] at *; first | omega | assumption | (simp_all; done) | grind))), hK _ ?_⟩
  clear hK K
  refine AWP.cond rfl (fun hb => ?_) (fun hb => ?_)
  · first | simp only [hb, cond_true] at hR | (simp only [*] at hb; simp only [hb, cond_true] at hR)
    refine AWP.seq ?_
    refine AWP.regS G_ok laws_FnExactValidFaults_DD hc (by kernel_rfl) (fun K hK => ?_); simp only [ea, gv, sv, D_laws_szFaultS, D_spec_ValidFaults, D_laws_toFaultS, D_impl_ValidFaults, D_laws_eqFaultS, reduceCtorEq, reduceIte, Nat.reduceBEq, Nat.reduceAdd, Nat.reduceEqDiff, Nat.reduceLT, Nat.reduceLeDiff, Nat.reduceMul, Nat.reduceSub, BEq.rfl, beq_self_eq_true, Int.reduceToNat]
    first | refine hK _ ?_ | refine ⟨by (first | trivial | omega | (simp only [ob, ln, bdv, laws_toFaultS_id, sv] at *; omega) | ((try clear hK K); (repeat' first | apply And.intro | intro _) <;> first | trivial | omega | assumption | solve_by_elim | (apply bd_getD <;> first | assumption | decide) | (apply bd_subL <;> first | assumption | decide) | (simp only [ob, ln, bdv, laws_toFaultS_id, sv] at *; first | omega | assumption | (simp_all; done) | grind))), hK _ ?_⟩
    clear hK K
    refine AWP.ret ?_
    subst hR
    (simp only [en, si, ea, gv, sv, hk, reduceCtorEq, reduceIte, Nat.reduceBEq, Nat.reduceAdd, Nat.reduceEqDiff, Nat.reduceLT, Nat.reduceLeDiff, Nat.reduceMul, Nat.reduceSub, BEq.rfl, beq_self_eq_true, Int.reduceToNat]; first | done | trivial | (and_intros <;> first | rfl | trivial | omega | (rw [IntKind.wrap_i64]; omega) | (simp only [ln]; done) | (simp only [ob, ln, bdv, laws_toFaultS_id, sv] at *; first | omega | grind) | (left; intro j hj; simp only [pw, Bool.cond_eq_ite, Bool.and_eq_true, decide_eq_true_eq]; (repeat' split) <;> simp [putL, NoBorL, NoBor]) | (intro j hj; simp only [pw, Bool.cond_eq_ite, Bool.and_eq_true, decide_eq_true_eq]; (try rw [subL_getD _ _ _ _ (by first | assumption | omega)]); (try rw [clearL_getD _ _ _ _ (by first | omega | (simp only [ob, ln, bdv] at *; omega))]); (repeat' split) <;> first | rfl | omega | exact simOL_refl _ | (simp_all; done) | (simp_all; rfl) | (simp_all; omega) | (simp_all; exact simOL_refl _) | (simp [putL, NoBorL, NoBor]; done))))
  · first | simp only [hb, cond_false] at hR | (simp only [*] at hb; simp only [hb, cond_false] at hR)
    refine AWP.skip ?_
    refine AWP.seq ?_
    refine AWP.regS G_ok laws_FnExactValidFaults_DD hc (by kernel_rfl) (fun K hK => ?_); simp only [ea, gv, sv, D_laws_szFaultS, D_spec_ValidFaults, D_laws_toFaultS, D_impl_ValidFaults, D_laws_eqFaultS, reduceCtorEq, reduceIte, Nat.reduceBEq, Nat.reduceAdd, Nat.reduceEqDiff, Nat.reduceLT, Nat.reduceLeDiff, Nat.reduceMul, Nat.reduceSub, BEq.rfl, beq_self_eq_true, Int.reduceToNat]
    first | refine hK _ ?_ | refine ⟨by (first | trivial | omega | (simp only [ob, ln, bdv, laws_toFaultS_id, sv] at *; omega) | ((try clear hK K); (repeat' first | apply And.intro | intro _) <;> first | trivial | omega | assumption | solve_by_elim | (apply bd_getD <;> first | assumption | decide) | (apply bd_subL <;> first | assumption | decide) | (simp only [ob, ln, bdv, laws_toFaultS_id, sv] at *; first | omega | assumption | (simp_all; done) | grind))), hK _ ?_⟩
    clear hK K
    refine AWP.seq ?_
    refine AWP.regS G_ok laws_FnExactValidFaults_DD hc (by kernel_rfl) (fun K hK => ?_); simp only [ea, gv, sv, D_laws_szFaultS, D_spec_ValidFaults, D_laws_toFaultS, D_impl_ValidFaults, D_laws_eqFaultS, reduceCtorEq, reduceIte, Nat.reduceBEq, Nat.reduceAdd, Nat.reduceEqDiff, Nat.reduceLT, Nat.reduceLeDiff, Nat.reduceMul, Nat.reduceSub, BEq.rfl, beq_self_eq_true, Int.reduceToNat]
    first | refine hK _ ?_ | refine ⟨by (first | trivial | omega | (simp only [ob, ln, bdv, laws_toFaultS_id, sv] at *; omega) | ((try clear hK K); (repeat' first | apply And.intro | intro _) <;> first | trivial | omega | assumption | solve_by_elim | (apply bd_getD <;> first | assumption | decide) | (apply bd_subL <;> first | assumption | decide) | (simp only [ob, ln, bdv, laws_toFaultS_id, sv] at *; first | omega | assumption | (simp_all; done) | grind))), hK _ ?_⟩
    clear hK K
    refine AWP.seq ?_
    refine AWP.regS G_ok laws_FnExactValidFaults_DD hc (by kernel_rfl) (fun K hK => ?_); simp only [ea, gv, sv, D_laws_szFaultS, D_spec_ValidFaults, D_laws_toFaultS, D_impl_ValidFaults, D_laws_eqFaultS, reduceCtorEq, reduceIte, Nat.reduceBEq, Nat.reduceAdd, Nat.reduceEqDiff, Nat.reduceLT, Nat.reduceLeDiff, Nat.reduceMul, Nat.reduceSub, BEq.rfl, beq_self_eq_true, Int.reduceToNat]
    first | refine hK _ ?_ | refine ⟨by (first | trivial | omega | (simp only [ob, ln, bdv, laws_toFaultS_id, sv] at *; omega) | ((try clear hK K); (repeat' first | apply And.intro | intro _) <;> first | trivial | omega | assumption | solve_by_elim | (apply bd_getD <;> first | assumption | decide) | (apply bd_subL <;> first | assumption | decide) | (simp only [ob, ln, bdv, laws_toFaultS_id, sv] at *; first | omega | assumption | (simp_all; done) | grind))), hK _ ?_⟩
    clear hK K
    refine AWP.seq ?_
    refine AWP.seq ?_
    refine AWP.regS G_ok laws_FnExactValidFaults_DD hc (by kernel_rfl) (fun K hK => ?_); simp only [ea, gv, sv, D_laws_szFaultS, D_spec_ValidFaults, D_laws_toFaultS, D_impl_ValidFaults, D_laws_eqFaultS, reduceCtorEq, reduceIte, Nat.reduceBEq, Nat.reduceAdd, Nat.reduceEqDiff, Nat.reduceLT, Nat.reduceLeDiff, Nat.reduceMul, Nat.reduceSub, BEq.rfl, beq_self_eq_true, Int.reduceToNat]
    first | refine hK _ ?_ | refine ⟨by (first | trivial | omega | (simp only [ob, ln, bdv, laws_toFaultS_id, sv] at *; omega) | ((try clear hK K); (repeat' first | apply And.intro | intro _) <;> first | trivial | omega | assumption | solve_by_elim | (apply bd_getD <;> first | assumption | decide) | (apply bd_subL <;> first | assumption | decide) | (simp only [ob, ln, bdv, laws_toFaultS_id, sv] at *; first | omega | assumption | (simp_all; done) | grind))), hK _ ?_⟩
    clear hK K
    refine AWP.cond rfl (fun hb => ?_) (fun hb => ?_)
    · first | simp only [hb, cond_true] at hR | (simp only [*] at hb; simp only [hb, cond_true] at hR)
      refine AWP.seq ?_
      refine AWP.regS G_ok laws_FnExactValidFaults_DD hc (by kernel_rfl) (fun K hK => ?_); simp only [ea, gv, sv, D_laws_szFaultS, D_spec_ValidFaults, D_laws_toFaultS, D_impl_ValidFaults, D_laws_eqFaultS, reduceCtorEq, reduceIte, Nat.reduceBEq, Nat.reduceAdd, Nat.reduceEqDiff, Nat.reduceLT, Nat.reduceLeDiff, Nat.reduceMul, Nat.reduceSub, BEq.rfl, beq_self_eq_true, Int.reduceToNat]
      first | refine hK _ ?_ | refine ⟨by (first | trivial | omega | (simp only [ob, ln, bdv, laws_toFaultS_id, sv] at *; omega) | ((try clear hK K); (repeat' first | apply And.intro | intro _) <;> first | trivial | omega | assumption | solve_by_elim | (apply bd_getD <;> first | assumption | decide) | (apply bd_subL <;> first | assumption | decide) | (simp only [ob, ln, bdv, laws_toFaultS_id, sv] at *; first | omega | assumption | (simp_all; done) | grind))), hK _ ?_⟩
      clear hK K
      refine AWP.ret ?_
      subst hR
      (simp only [en, si, ea, gv, sv, hk, reduceCtorEq, reduceIte, Nat.reduceBEq, Nat.reduceAdd, Nat.reduceEqDiff, Nat.reduceLT, Nat.reduceLeDiff, Nat.reduceMul, Nat.reduceSub, BEq.rfl, beq_self_eq_true, Int.reduceToNat]; first | done | trivial | (and_intros <;> first | rfl | trivial | omega | (rw [IntKind.wrap_i64]; omega) | (simp only [ln]; done) | (simp only [ob, ln, bdv, laws_toFaultS_id, sv] at *; first | omega | grind) | (left; intro j hj; simp only [pw, Bool.cond_eq_ite, Bool.and_eq_true, decide_eq_true_eq]; (repeat' split) <;> simp [putL, NoBorL, NoBor]) | (intro j hj; simp only [pw, Bool.cond_eq_ite, Bool.and_eq_true, decide_eq_true_eq]; (try rw [subL_getD _ _ _ _ (by first | assumption | omega)]); (try rw [clearL_getD _ _ _ _ (by first | omega | (simp only [ob, ln, bdv] at *; omega))]); (repeat' split) <;> first | rfl | omega | exact simOL_refl _ | (simp_all; done) | (simp_all; rfl) | (simp_all; omega) | (simp_all; exact simOL_refl _) | (simp [putL, NoBorL, NoBor]; done))))
    · first | simp only [hb, cond_false] at hR | (simp only [*] at hb; simp only [hb, cond_false] at hR)
      refine AWP.skip ?_
      refine AWP.seq ?_
      refine AWP.seq ?_
      refine AWP.regS G_ok laws_FnExactValidFaults_DD hc (by kernel_rfl) (fun K hK => ?_); simp only [ea, gv, sv, D_laws_szFaultS, D_spec_ValidFaults, D_laws_toFaultS, D_impl_ValidFaults, D_laws_eqFaultS, reduceCtorEq, reduceIte, Nat.reduceBEq, Nat.reduceAdd, Nat.reduceEqDiff, Nat.reduceLT, Nat.reduceLeDiff, Nat.reduceMul, Nat.reduceSub, BEq.rfl, beq_self_eq_true, Int.reduceToNat]
      first | refine hK _ ?_ | refine ⟨by (first | trivial | omega | (simp only [ob, ln, bdv, laws_toFaultS_id, sv] at *; omega) | ((try clear hK K); (repeat' first | apply And.intro | intro _) <;> first | trivial | omega | assumption | solve_by_elim | (apply bd_getD <;> first | assumption | decide) | (apply bd_subL <;> first | assumption | decide) | (simp only [ob, ln, bdv, laws_toFaultS_id, sv] at *; first | omega | assumption | (simp_all; done) | grind))), hK _ ?_⟩
      clear hK K
      refine AWP.cond rfl (fun hb => ?_) (fun hb => ?_)
      · first | simp only [hb, cond_true] at hR | (simp only [*] at hb; simp only [hb, cond_true] at hR)
        refine AWP.seq ?_
        refine AWP.regS G_ok laws_FnExactValidFaults_DD hc (by kernel_rfl) (fun K hK => ?_); simp only [ea, gv, sv, D_laws_szFaultS, D_spec_ValidFaults, D_laws_toFaultS, D_impl_ValidFaults, D_laws_eqFaultS, reduceCtorEq, reduceIte, Nat.reduceBEq, Nat.reduceAdd, Nat.reduceEqDiff, Nat.reduceLT, Nat.reduceLeDiff, Nat.reduceMul, Nat.reduceSub, BEq.rfl, beq_self_eq_true, Int.reduceToNat]
        first | refine hK _ ?_ | refine ⟨by (first | trivial | omega | (simp only [ob, ln, bdv, laws_toFaultS_id, sv] at *; omega) | ((try clear hK K); (repeat' first | apply And.intro | intro _) <;> first | trivial | omega | assumption | solve_by_elim | (apply bd_getD <;> first | assumption | decide) | (apply bd_subL <;> first | assumption | decide) | (simp only [ob, ln, bdv, laws_toFaultS_id, sv] at *; first | omega | assumption | (simp_all; done) | grind))), hK _ ?_⟩
        clear hK K
        refine AWP.ret ?_
        subst hR
        (simp only [en, si, ea, gv, sv, hk, reduceCtorEq, reduceIte, Nat.reduceBEq, Nat.reduceAdd, Nat.reduceEqDiff, Nat.reduceLT, Nat.reduceLeDiff, Nat.reduceMul, Nat.reduceSub, BEq.rfl, beq_self_eq_true, Int.reduceToNat]; first | done | trivial | (and_intros <;> first | rfl | trivial | omega | (rw [IntKind.wrap_i64]; omega) | (simp only [ln]; done) | (simp only [ob, ln, bdv, laws_toFaultS_id, sv] at *; first | omega | grind) | (left; intro j hj; simp only [pw, Bool.cond_eq_ite, Bool.and_eq_true, decide_eq_true_eq]; (repeat' split) <;> simp [putL, NoBorL, NoBor]) | (intro j hj; simp only [pw, Bool.cond_eq_ite, Bool.and_eq_true, decide_eq_true_eq]; (try rw [subL_getD _ _ _ _ (by first | assumption | omega)]); (try rw [clearL_getD _ _ _ _ (by first | omega | (simp only [ob, ln, bdv] at *; omega))]); (repeat' split) <;> first | rfl | omega | exact simOL_refl _ | (simp_all; done) | (simp_all; rfl) | (simp_all; omega) | (simp_all; exact simOL_refl _) | (simp [putL, NoBorL, NoBor]; done))))
      · first | simp only [hb, cond_false] at hR | (simp only [*] at hb; simp only [hb, cond_false] at hR)
        refine AWP.skip ?_
        refine AWP.seq ?_
        refine AWP.regS G_ok laws_FnExactValidFaults_DD hc (by kernel_rfl) (fun K hK => ?_); simp only [ea, gv, sv, D_laws_szFaultS, D_spec_ValidFaults, D_laws_toFaultS, D_impl_ValidFaults, D_laws_eqFaultS, reduceCtorEq, reduceIte, Nat.reduceBEq, Nat.reduceAdd, Nat.reduceEqDiff, Nat.reduceLT, Nat.reduceLeDiff, Nat.reduceMul, Nat.reduceSub, BEq.rfl, beq_self_eq_true, Int.reduceToNat]
        first | refine hK _ ?_ | refine ⟨by (first | trivial | omega | (simp only [ob, ln, bdv, laws_toFaultS_id, sv] at *; omega) | ((try clear hK K); (repeat' first | apply And.intro | intro _) <;> first | trivial | omega | assumption | solve_by_elim | (apply bd_getD <;> first | assumption | decide) | (apply bd_subL <;> first | assumption | decide) | (simp only [ob, ln, bdv, laws_toFaultS_id, sv] at *; first | omega | assumption | (simp_all; done) | grind))), hK _ ?_⟩
        clear hK K
        refine AWP.ret ?_
        subst hR
        (simp only [en, si, ea, gv, sv, hk, reduceCtorEq, reduceIte, Nat.reduceBEq, Nat.reduceAdd, Nat.reduceEqDiff, Nat.reduceLT, Nat.reduceLeDiff, Nat.reduceMul, Nat.reduceSub, BEq.rfl, beq_self_eq_true, Int.reduceToNat]; first | done | trivial | (and_intros <;> first | rfl | trivial | omega | (rw [IntKind.wrap_i64]; omega) | (simp only [ln]; done) | (simp only [ob, ln, bdv, laws_toFaultS_id, sv] at *; first | omega | grind) | (left; intro j hj; simp only [pw, Bool.cond_eq_ite, Bool.and_eq_true, decide_eq_true_eq]; (repeat' split) <;> simp [putL, NoBorL, NoBor]) | (intro j hj; simp only [pw, Bool.cond_eq_ite, Bool.and_eq_true, decide_eq_true_eq]; (try rw [subL_getD _ _ _ _ (by first | assumption | omega)]); (try rw [clearL_getD _ _ _ _ (by first | omega | (simp only [ob, ln, bdv] at *; omega))]); (repeat' split) <;> first | rfl | omega | exact simOL_refl _ | (simp_all; done) | (simp_all; rfl) | (simp_all; omega) | (simp_all; exact simOL_refl _) | (simp [putL, NoBorL, NoBor]; done))))

def D_laws_FnExactValidFaults : DF
  | [x0] => some (.bool (laws_FnExactValidFaults (rdL dFault x0)), false, [wL 4 eFault dFault x0, (rdL dFault x0).length < 9223372036854775808])
  | _ => none
theorem D_laws_FnExactValidFaults_ok : OkD Try.prog 3 D_laws_FnExactValidFaults := by
  intro xs r z ob h ho
  unfold D_laws_FnExactValidFaults at h
  split at h
  · simp only [Option.some.injEq, Prod.mk.injEq] at h
    obtain ⟨rfl, rfl, rfl⟩ := h
    obtain ⟨h0, hb0, _⟩ := ho
    exact Den.sim (laws_FnExactValidFaults_den _ hb0) (simOL_cons (wL_sim h0).1 <| trivial) (noIdL_cons (wL_sim h0).2 <| rfl) rfl
  · cases h
end Go.Ab

namespace Go.Ab
open Go Go.Proofs
theorem laws_eqFault_dec (a b : Fault) : laws_eqFault a b = decide (a = b) := by
  unfold laws_eqFault
  by_cases h : a = b
  · subst h; simp
  · rw [decide_eq_false h]
    cases a; cases b
    simp only [Fault.mk.injEq] at h
    simp only [bne_iff_ne, Bool.cond_eq_ite, ite_eq_right_iff]
    (repeat' split) <;> simp_all
theorem laws_eqFaultS_dec (a b : List Fault) : laws_eqFaultS a b = decide (a = b) := by
  unfold laws_eqFaultS
  by_cases hl : a.length = b.length
  · have h1 : ((a.length : Int) != (b.length : Int)) = false := by simp [hl]
    rw [h1, cond_false, loopR_any (b := laws_eqFaultS_b1 a b) (fun j => !decide (a.getD j default = b.getD j default)) false (fun j u _ _ => by simp only [laws_eqFaultS_b1, laws_eqFault_dec])]
    simp only [Nat.sub_zero, Nat.zero_add]
    rw [any_ne a b hl]
    by_cases h : a = b <;> simp [h]
  · have h1 : ((a.length : Int) != (b.length : Int)) = true := by simp; omega
    have h2 : ¬ a = b := fun e => hl (by rw [e])
    rw [h1, cond_true, decide_eq_false h2]
end Go.Ab

namespace Go.Ab
open Go Go.Proofs

theorem any_first {n : Nat} {p q : Nat → Bool} (h : ∀ i, i < n → (∀ j, j < i → p j = false) → p i = q i) : (List.range n).any p = (List.range n).any q := by
  have key : (∀ i, i < n → p i = false) ∨ ∃ i, i < n ∧ p i = true ∧ ∀ j, j < i → p j = false := by
    by_cases hh : ∃ i, i < n ∧ p i = true
    · right
      obtain ⟨i, hi⟩ := hh
      induction i using Nat.strongRecOn with
      | _ i ih =>
        by_cases h2 : ∃ j, j < i ∧ p j = true
        · obtain ⟨j, h3, h4⟩ := h2
          exact ih j h3 ⟨by omega, h4⟩
        · exact ⟨i, hi.1, hi.2, fun j hj => by cases hp : p j with | false => rfl | true => exact absurd ⟨j, hj, hp⟩ h2⟩
    · left
      intro i hi
      cases hp : p i with | false => rfl | true => exact absurd ⟨i, hi, hp⟩ hh
  rcases key with hk | ⟨i, h1, h2, h3⟩
  · have e1 : (List.range n).any p = false := by rw [List.any_eq_false]; intro i hi; rw [hk i (List.mem_range.1 hi)]; simp
    have e2 : (List.range n).any q = false := by
      rw [List.any_eq_false]; intro i hi
      have hi := List.mem_range.1 hi
      rw [← h i hi (fun j hj => hk j (by omega)), hk i hi]; simp
    rw [e1, e2]
  · have e1 : (List.range n).any p = true := List.any_eq_true.2 ⟨i, List.mem_range.2 h1, h2⟩
    have e2 : (List.range n).any q = true := List.any_eq_true.2 ⟨i, List.mem_range.2 h1, by rw [← h i h1 h3]; exact h2⟩
    rw [e1, e2]

def vF (f : Fault) : Prop := 1 ≤ f.Aid ∧ f.Aid ≤ 9999 ∧ 1 ≤ f.Kind ∧ f.Kind ≤ 4 ∧ 0 ≤ f.From ∧ f.From ≤ 143999999 ∧ (f.Until = -1 ∨ (f.From < f.Until ∧ f.Until ≤ 143999999))
def lessF (f g : Fault) : Prop := f.From < g.From ∨ (f.From = g.From ∧ (f.Aid < g.Aid ∨ (f.Aid = g.Aid ∧ f.Kind < g.Kind)))
def endF (f : Fault) : Int := if f.Until = -1 then 144000000 else f.Until

theorem impl_valid_iff (f : Fault) : impl_Fault_valid f = true ↔ vF f := by
  simp only [impl_Fault_valid, impl_isNumber, impl_isFaultKind, impl_isTime, impl_within, IntKind.wrap_i64, vF, Bool.and_eq_true, Bool.or_eq_true, decide_eq_true_eq, beq_iff_eq]
  omega
theorem spec_one_iff (f : Fault) : spec_l20One f = true ↔ vF f := by
  simp only [spec_l20One, spec_l20Number, spec_l20Kind, spec_l20Time, spec_l00In, vF, Bool.and_eq_true, Bool.or_eq_true, decide_eq_true_eq, beq_iff_eq]
  omega
theorem spec_less_iff (f g : Fault) : spec_l20Less f g = true ↔ lessF f g := by
  simp only [spec_l20Less, lessF, Bool.cond_eq_ite, bne_iff_ne]
  by_cases h1 : f.From = g.From
  · by_cases h2 : f.Aid = g.Aid
    · simp [h1, h2]
    · simp [h1, h2]
  · simp [h1]
theorem cmp64 (a b : Int) : cmp_Compare_int64 a b = if a < b then -1 else if b < a then 1 else 0 := by
  simp only [cmp_Compare_int64, cmp_isNaN_int64, Bool.cond_eq_ite, bne_self_eq_false, decide_eq_true_eq]
  simp
theorem cmpOr3 (a b c : Int) : cmp_Or_int [a, b, c] = if a ≠ 0 then a else if b ≠ 0 then b else c := by
  simp only [cmp_Or_int, loopR, cmp_Or_int_b1, List.length_cons, List.length_nil, Nat.reduceAdd, Nat.reduceSub, Bool.cond_eq_ite, bne_iff_ne, List.getD_cons_zero, List.getD_cons_succ, Nat.zero_add]
  by_cases h1 : a = 0 <;> by_cases h2 : b = 0 <;> by_cases h3 : c = 0 <;> simp [h1, h2, h3]
theorem impl_compare_iff (f g : Fault) : (0 ≤ impl_Fault_compare f g) ↔ ¬ lessF f g := by
  simp only [impl_Fault_compare, cmpOr3, cmp64, lessF]
  (repeat' split) <;> simp_all <;> omega
theorem contains_iff (l : List Fault) (x : Fault) : slices_ContainsFunc_Fault__impl_Fault_meets l x = true ↔ ∃ k, k < l.length ∧ impl_Fault_meets x (l.getD k default) = true := by
  unfold slices_ContainsFunc_Fault__impl_Fault_meets slices_IndexFunc_Fault__impl_Fault_meets
  rcases loopR_first (b := slices_IndexFunc_Fault__impl_Fault_meets_b1 l x) (fun j => impl_Fault_meets x (l.getD j default)) (fun j => (j : Int)) (k := l.length - 0) (i := 0) (s := ()) (fun j u _ _ => rfl) with ⟨j, _, h2, h3, h4, h5⟩ | ⟨h1, h2⟩
  · rw [h5]
    simp only [decide_eq_true_eq]
    exact ⟨fun _ => ⟨j, by omega, h3⟩, fun _ => by omega⟩
  · rw [h2]
    simp only [decide_eq_true_eq]
    refine ⟨fun h => by omega, fun ⟨k, hk, hm⟩ => ?_⟩
    rw [h1 k (Nat.zero_le _) (by omega)] at hm; cases hm

theorem meets_iff (x y : Fault) (hx : vF x) (hle : y.From ≤ x.From) : impl_Fault_meets x y = true ↔ (y.Aid = x.Aid ∧ y.Kind = x.Kind) ∧ x.From < endF y := by
  have hend : ∀ f, impl_Fault_end f = endF f := fun f => by simp [impl_Fault_end, endF, Bool.cond_eq_ite]
  simp only [impl_Fault_meets, hend, Bool.and_eq_true, beq_iff_eq, decide_eq_true_eq]
  have hx2 : x.From < endF x := by
    unfold endF vF at *
    split <;> omega
  constructor
  · rintro ⟨⟨h1, h2⟩, h3⟩
    refine ⟨⟨h1.symm, h2.symm⟩, ?_⟩
    split at h3 <;> split at h3 <;> omega
  · rintro ⟨⟨h1, h2⟩, h3⟩
    refine ⟨⟨h1.symm, h2.symm⟩, ?_⟩
    split <;> split <;> omega

theorem less_le {f g : Fault} (h : lessF f g) : f.From ≤ g.From := by unfold lessF at h; omega

theorem chain_le (a : List Fault) (i : Nat) (h : ∀ j, 0 < j → j ≤ i → lessF (a.getD (j - 1) default) (a.getD j default)) : ∀ k, k ≤ i → (a.getD k default).From ≤ (a.getD i default).From := by
  intro k hk
  obtain ⟨d, rfl⟩ : ∃ d, i = k + d := ⟨i - k, by omega⟩
  induction d with
  | zero => exact Int.le_refl _
  | succ d ih =>
    have h1 := ih (fun j h1 h2 => h j h1 (by omega)) (by omega)
    have h2 := less_le (h (k + (d + 1)) (by omega) (Nat.le_refl _))
    have e : k + (d + 1) - 1 = k + d := by omega
    rw [e] at h2
    omega

def pI (a : List Fault) (i : Nat) : Bool := (((!(impl_Fault_valid (a.getD i default))) || (decide (0 < (i : Int)) && decide (0 ≤ (impl_Fault_compare (a.getD ((IntKind.wrap .i64 ((i : Int) - 1)).toNat) default) (a.getD i default))))) || (slices_ContainsFunc_Fault__impl_Fault_meets (subL a 0 i) (a.getD i default)))
def qS (a : List Fault) (i k : Nat) : Bool := (((((a.getD k default).Aid) == ((a.getD i default).Aid)) && (((a.getD k default).Kind) == ((a.getD i default).Kind))) && decide (((a.getD i default).From) < (spec_l20End (a.getD k default))))
def pS (a : List Fault) (i : Nat) : Bool := ((!(spec_l20One (a.getD i default))) || (decide (0 < (i : Int)) && (!(spec_l20Less (a.getD ((IntKind.wrap .i64 ((i : Int) - 1)).toNat) default) (a.getD i default))))) || (List.range i).any (fun k => qS a i k)

theorem wpred {i : Nat} (h0 : 0 < i) (h : i < 1099511627776) : (IntKind.wrap .i64 ((i : Int) - 1)).toNat = i - 1 := by
  rw [IntKind.wrap_i64]; omega

theorem pI_iff (a : List Fault) (i : Nat) (h : i < 1099511627776) : pI a i = true ↔ (¬ vF (a.getD i default) ∨ (0 < i ∧ ¬ lessF (a.getD (i - 1) default) (a.getD i default)) ∨ ∃ k, k < i ∧ impl_Fault_meets (a.getD i default) (a.getD k default) = true) := by
  have e1 : (impl_Fault_valid (a.getD i default) = false) ↔ ¬ vF (a.getD i default) := by rw [← impl_valid_iff]; simp
  simp only [pI, Bool.or_eq_true, Bool.and_eq_true, Bool.not_eq_true', decide_eq_true_eq, e1, contains_iff, subL_length, or_assoc]
  have e2 : (0 < (i : Int) ∧ 0 ≤ impl_Fault_compare (a.getD ((IntKind.wrap .i64 ((i : Int) - 1)).toNat) default) (a.getD i default)) ↔ (0 < i ∧ ¬ lessF (a.getD (i - 1) default) (a.getD i default)) := by
    constructor
    · rintro ⟨h1, h2⟩
      have h1 : 0 < i := by omega
      rw [wpred h1 h, impl_compare_iff] at h2
      exact ⟨h1, h2⟩
    · rintro ⟨h1, h2⟩
      rw [wpred h1 h, impl_compare_iff]
      exact ⟨by omega, h2⟩
  rw [e2]
  have e3 : (∃ k, k < i ∧ impl_Fault_meets (a.getD i default) ((subL a 0 i).getD k default) = true) ↔ (∃ k, k < i ∧ impl_Fault_meets (a.getD i default) (a.getD k default) = true) := by
    constructor
    · rintro ⟨k, h1, h2⟩
      rw [subL_getD _ _ _ _ h1, Nat.zero_add] at h2
      exact ⟨k, h1, h2⟩
    · rintro ⟨k, h1, h2⟩
      refine ⟨k, h1, ?_⟩
      rw [subL_getD _ _ _ _ h1, Nat.zero_add]
      exact h2
  rw [e3]
theorem pS_iff (a : List Fault) (i : Nat) (h : i < 1099511627776) : pS a i = true ↔ (¬ vF (a.getD i default) ∨ (0 < i ∧ ¬ lessF (a.getD (i - 1) default) (a.getD i default)) ∨ ∃ k, k < i ∧ (((a.getD k default).Aid = (a.getD i default).Aid ∧ (a.getD k default).Kind = (a.getD i default).Kind) ∧ (a.getD i default).From < endF (a.getD k default))) := by
  have e1 : (spec_l20One (a.getD i default) = false) ↔ ¬ vF (a.getD i default) := by rw [← spec_one_iff]; simp
  have hend : ∀ f, spec_l20End f = endF f := fun f => by simp [spec_l20End, endF, Bool.cond_eq_ite]
  simp only [pS, qS, hend, Bool.or_eq_true, Bool.and_eq_true, Bool.not_eq_true', decide_eq_true_eq, e1, or_assoc, List.any_eq_true, List.mem_range, beq_iff_eq]
  have e2 : (0 < (i : Int) ∧ spec_l20Less (a.getD ((IntKind.wrap .i64 ((i : Int) - 1)).toNat) default) (a.getD i default) = false) ↔ (0 < i ∧ ¬ lessF (a.getD (i - 1) default) (a.getD i default)) := by
    constructor
    · rintro ⟨h1, h2⟩
      have h1 : 0 < i := by omega
      rw [wpred h1 h] at h2
      exact ⟨h1, fun hl => by rw [(spec_less_iff _ _).2 hl] at h2; cases h2⟩
    · rintro ⟨h1, h2⟩
      rw [wpred h1 h]
      refine ⟨by omega, ?_⟩
      rw [← spec_less_iff] at h2
      simpa using h2
  rw [e2]

theorem validFaults_eq (a : List Fault) (hl : a.length < 1099511627776) : impl_ValidFaults a = spec_ValidFaults a := by
  unfold impl_ValidFaults spec_ValidFaults spec_l20Ok
  rw [loopR_any (b := impl_ValidFaults_b1 a) (pI a) false (fun j u _ _ => rfl)]
  rw [loopR_any (b := spec_l20Ok_b1 a) (pS a) false (fun j u _ _ => by
    simp only [spec_l20Ok_b1, pS]
    rw [loopR_any (b := spec_l20Ok_b2 a j u) (qS a j) false (fun k u _ _ => rfl)]
    simp only [Nat.sub_zero, Nat.zero_add]
    generalize ((!(spec_l20One (a.getD j default))) || (decide (0 < (j : Int)) && (!(spec_l20Less (a.getD ((IntKind.wrap .i64 ((j : Int) - 1)).toNat) default) (a.getD j default))))) = c
    generalize (List.range j).any (qS a j) = d
    cases c <;> cases d <;> rfl)]
  simp only [Nat.sub_zero, Nat.zero_add]
  have e : (List.range a.length).any (fun j => pI a j) = (List.range a.length).any (fun j => pS a j) := by
    refine any_first fun i hi hpre => ?_
    apply Bool.eq_iff_iff.2
    rw [pI_iff a i (by omega), pS_iff a i (by omega)]
    by_cases hv : vF (a.getD i default)
    · by_cases hls : 0 < i ∧ ¬ lessF (a.getD (i - 1) default) (a.getD i default)
      · exact ⟨fun _ => .inr (.inl hls), fun _ => .inr (.inl hls)⟩
      · have hch : ∀ j, 0 < j → j ≤ i → lessF (a.getD (j - 1) default) (a.getD j default) := by
          intro j h1 h2
          by_cases hji : j = i
          · subst hji
            exact Classical.byContradiction fun hn => hls ⟨h1, hn⟩
          · have := hpre j (by omega)
            refine Classical.byContradiction fun hn => ?_
            have h3 := (pI_iff a j (by omega)).2 (.inr (.inl ⟨h1, hn⟩))
            rw [this] at h3; cases h3
        have hle := chain_le a i hch
        have hk : (∃ k, k < i ∧ impl_Fault_meets (a.getD i default) (a.getD k default) = true) ↔ (∃ k, k < i ∧ (((a.getD k default).Aid = (a.getD i default).Aid ∧ (a.getD k default).Kind = (a.getD i default).Kind) ∧ (a.getD i default).From < endF (a.getD k default))) := by
          constructor
          · rintro ⟨k, h1, h2⟩
            exact ⟨k, h1, (meets_iff _ _ hv (hle k (by omega))).1 h2⟩
          · rintro ⟨k, h1, h2⟩
            exact ⟨k, h1, (meets_iff _ _ hv (hle k (by omega))).2 h2⟩
        rw [hk]
    · exact ⟨fun _ => .inl hv, fun _ => .inl hv⟩
  rw [e]
  cases (List.range a.length).any (fun j => pS a j) <;> rfl

theorem law_ValidFaults (a : List Fault) (hl : a.length < 9223372036854775808) : laws_FnExactValidFaults a = true := by
  unfold laws_FnExactValidFaults
  have hf := laws_szFaultS_facts a 1048576 (by omega) (by omega) hl
  simp only [laws_toFaultS_id, laws_eqFaultS_dec]
  by_cases h : laws_szFaultS a 1048576 < 0
  · simp [h]
  · have := hf.2.2 h
    rw [validFaults_eq a (by omega)]
    simp
end Go.Ab

namespace Go.Ab
open Go Go.Proofs
theorem impl_clone_Fault_DD : DOk Try.prog (DD []) := DD_nil _
def impl_clone_Fault (a0 : (List Fault)) : (List Fault) :=
  (List.replicate 0 (default : Fault)) ++ a0

theorem impl_clone_Fault_den (a0 : (List Fault)) (hb0 : a0.length < 1099511627776) : Den Try.prog 83 [encL 4 eFault a0] (ownL 70 4 eFault (impl_clone_Fault a0)) := by
  generalize hR : impl_clone_Fault a0 = r
  unfold impl_clone_Fault at hR
  refine den_intro G_ok Try.func83 (by kernel_rfl) rfl Try.ntmps83 (by rw [Try.results83]) (by simp) rfl ?_
  intro c hc hk
  simp only [pars, Nat.zero_add]
  refine AWP.seq ?_
  refine AWP.regS G_ok impl_clone_Fault_DD hc (by kernel_rfl) (fun K hK => ?_); simp only [ea, gv, sv, reduceCtorEq, reduceIte, Nat.reduceBEq, Nat.reduceAdd, Nat.reduceEqDiff, Nat.reduceLT, Nat.reduceLeDiff, Nat.reduceMul, Nat.reduceSub, BEq.rfl, beq_self_eq_true, Int.reduceToNat]
  first | refine hK _ ?_ | refine ⟨by (first | trivial | omega | (simp only [ob, ln, bdv, sv] at *; omega) | ((try clear hK K); (repeat' first | apply And.intro | intro _) <;> first | trivial | omega | assumption | solve_by_elim | (apply bd_getD <;> first | assumption | decide) | (apply bd_subL <;> first | assumption | decide) | (simp only [ob, ln, bdv, sv] at *; first | omega | assumption | (simp_all; done) | grind))), hK _ ?_⟩
  clear hK K
  refine AWP.seq ?_
  refine AWP.regS G_ok impl_clone_Fault_DD hc (by kernel_rfl) (fun K hK => ?_); simp only [ea, gv, sv, reduceCtorEq, reduceIte, Nat.reduceBEq, Nat.reduceAdd, Nat.reduceEqDiff, Nat.reduceLT, Nat.reduceLeDiff, Nat.reduceMul, Nat.reduceSub, BEq.rfl, beq_self_eq_true, Int.reduceToNat]
  first | refine hK _ ?_ | refine ⟨by (first | trivial | omega | (simp only [ob, ln, bdv, sv] at *; omega) | ((try clear hK K); (repeat' first | apply And.intro | intro _) <;> first | trivial | omega | assumption | solve_by_elim | (apply bd_getD <;> first | assumption | decide) | (apply bd_subL <;> first | assumption | decide) | (simp only [ob, ln, bdv, sv] at *; first | omega | assumption | (simp_all; done) | grind))), hK _ ?_⟩
  clear hK K
  refine AWP.ret ?_
  subst hR
  (simp only [en, si, ea, gv, sv, hk, reduceCtorEq, reduceIte, Nat.reduceBEq, Nat.reduceAdd, Nat.reduceEqDiff, Nat.reduceLT, Nat.reduceLeDiff, Nat.reduceMul, Nat.reduceSub, BEq.rfl, beq_self_eq_true, Int.reduceToNat]; first | done | trivial | (and_intros <;> first | rfl | trivial | omega | (rw [IntKind.wrap_i64]; omega) | (simp only [ln]; done) | (simp only [ob, ln, bdv, sv] at *; first | omega | grind) | (left; intro j hj; simp only [pw, Bool.cond_eq_ite, Bool.and_eq_true, decide_eq_true_eq]; (repeat' split) <;> simp [putL, NoBorL, NoBor]) | (intro j hj; simp only [pw, Bool.cond_eq_ite, Bool.and_eq_true, decide_eq_true_eq]; (try rw [subL_getD _ _ _ _ (by first | assumption | omega)]); (try rw [clearL_getD _ _ _ _ (by first | omega | (simp only [ob, ln, bdv] at *; omega))]); (repeat' split) <;> first | rfl | omega | exact simOL_refl _ | (simp_all; done) | (simp_all; rfl) | (simp_all; omega) | (simp_all; exact simOL_refl _) | (simp [putL, NoBorL, NoBor]; done))))

def D_impl_clone_Fault : DF
  | [x0] => some (ownL 70 4 eFault (impl_clone_Fault (rdL dFault x0)), false, [wL 4 eFault dFault x0, (rdL dFault x0).length < 1099511627776])
  | _ => none
def Dz_impl_clone_Fault : DF
  | [x0] => some (ownL 70 4 eFault (impl_clone_Fault (rdL dFault x0)), true, [wL 4 eFault dFault x0, (rdL dFault x0).length < 1099511627776])
  | _ => none
theorem D_impl_clone_Fault_ok : OkD Try.prog 83 D_impl_clone_Fault := by
  intro xs r z ob h ho
  unfold D_impl_clone_Fault at h
  split at h
  · simp only [Option.some.injEq, Prod.mk.injEq] at h
    obtain ⟨rfl, rfl, rfl⟩ := h
    obtain ⟨h0, hb0, _⟩ := ho
    exact Den.sim (impl_clone_Fault_den _ hb0) (simOL_cons (wL_sim h0).1 <| trivial) (noIdL_cons (wL_sim h0).2 <| rfl) rfl
  · cases h

theorem Dz_impl_clone_Fault_ok : OkD Try.prog 83 Dz_impl_clone_Fault := by
  intro xs r z ob h ho
  unfold Dz_impl_clone_Fault at h
  split at h
  · simp only [Option.some.injEq, Prod.mk.injEq] at h
    obtain ⟨rfl, rfl, rfl⟩ := h
    obtain ⟨h0, hb0, _⟩ := ho
    exact Den.sim (impl_clone_Fault_den _ hb0) (simOL_cons (wL_sim h0).1 <| trivial) (noIdL_cons (wL_sim h0).2 <| rfl) rfl
  · cases h
end Go.Ab

namespace Go.Ab
open Go Go.Proofs
theorem impl_OpenFaults_1_DD : DOk Try.prog (DD []) := DD_nil _
def impl_OpenFaults_1 (a0 : Fault) : Bool :=
  (a0.Until != (-1))

theorem impl_OpenFaults_1_den (a0 : Fault)  : Den Try.prog 86 [.agg (eFault a0)] (.bool (impl_OpenFaults_1 a0)) := by
  generalize hR : impl_OpenFaults_1 a0 = r
  unfold impl_OpenFaults_1 at hR
  refine den_intro G_ok Try.func86 (by kernel_rfl) rfl Try.ntmps86 (by rw [Try.results86]) (by simp) rfl ?_
  intro c hc hk
  simp only [pars, Nat.zero_add]
  refine AWP.seq ?_
  refine AWP.regS G_ok impl_OpenFaults_1_DD hc (by kernel_rfl) (fun K hK => ?_); simp only [ea, gv, sv, reduceCtorEq, reduceIte, Nat.reduceBEq, Nat.reduceAdd, Nat.reduceEqDiff, Nat.reduceLT, Nat.reduceLeDiff, Nat.reduceMul, Nat.reduceSub, BEq.rfl, beq_self_eq_true, Int.reduceToNat]
  first | refine hK _ ?_ | refine ⟨by (first | trivial | omega | (simp only [ob, ln, bdv, sv] at *; omega) | ((try clear hK K); (repeat' first | apply And.intro | intro _) <;> first | trivial | omega | assumption | solve_by_elim | (apply bd_getD <;> first | assumption | decide) | (apply bd_subL <;> first | assumption | decide) | (simp only [ob, ln, bdv, sv] at *; first | omega | assumption | (simp_all; done) | grind))), hK _ ?_⟩
  clear hK K
  refine AWP.seq ?_
  refine AWP.regS G_ok impl_OpenFaults_1_DD hc (by kernel_rfl) (fun K hK => ?_); simp only [ea, gv, sv, reduceCtorEq, reduceIte, Nat.reduceBEq, Nat.reduceAdd, Nat.reduceEqDiff, Nat.reduceLT, Nat.reduceLeDiff, Nat.reduceMul, Nat.reduceSub, BEq.rfl, beq_self_eq_true, Int.reduceToNat]
  first | refine hK _ ?_ | refine ⟨by (first | trivial | omega | (simp only [ob, ln, bdv, sv] at *; omega) | ((try clear hK K); (repeat' first | apply And.intro | intro _) <;> first | trivial | omega | assumption | solve_by_elim | (apply bd_getD <;> first | assumption | decide) | (apply bd_subL <;> first | assumption | decide) | (simp only [ob, ln, bdv, sv] at *; first | omega | assumption | (simp_all; done) | grind))), hK _ ?_⟩
  clear hK K
  refine AWP.ret ?_
  subst hR
  (simp only [en, si, ea, gv, sv, hk, reduceCtorEq, reduceIte, Nat.reduceBEq, Nat.reduceAdd, Nat.reduceEqDiff, Nat.reduceLT, Nat.reduceLeDiff, Nat.reduceMul, Nat.reduceSub, BEq.rfl, beq_self_eq_true, Int.reduceToNat]; first | done | trivial | (and_intros <;> first | rfl | trivial | omega | (rw [IntKind.wrap_i64]; omega) | (simp only [ln]; done) | (simp only [ob, ln, bdv, sv] at *; first | omega | grind) | (left; intro j hj; simp only [pw, Bool.cond_eq_ite, Bool.and_eq_true, decide_eq_true_eq]; (repeat' split) <;> simp [putL, NoBorL, NoBor]) | (intro j hj; simp only [pw, Bool.cond_eq_ite, Bool.and_eq_true, decide_eq_true_eq]; (try rw [subL_getD _ _ _ _ (by first | assumption | omega)]); (try rw [clearL_getD _ _ _ _ (by first | omega | (simp only [ob, ln, bdv] at *; omega))]); (repeat' split) <;> first | rfl | omega | exact simOL_refl _ | (simp_all; done) | (simp_all; rfl) | (simp_all; omega) | (simp_all; exact simOL_refl _) | (simp [putL, NoBorL, NoBor]; done))))

def D_impl_OpenFaults_1 : DF
  | [x0] => some (.bool (impl_OpenFaults_1 (rdG dFault x0)), false, [wG eFault dFault x0])
  | _ => none
theorem D_impl_OpenFaults_1_ok : OkD Try.prog 86 D_impl_OpenFaults_1 := by
  intro xs r z ob h ho
  unfold D_impl_OpenFaults_1 at h
  split at h
  · simp only [Option.some.injEq, Prod.mk.injEq] at h
    obtain ⟨rfl, rfl, rfl⟩ := h
    obtain ⟨h0, _⟩ := ho
    exact Den.sim (impl_OpenFaults_1_den _ ) (simOL_cons (wG_sim h0).1 <| trivial) (noIdL_cons (wG_sim h0).2 <| rfl) rfl
  · cases h
end Go.Ab

namespace Go.Ab
open Go Go.Proofs
theorem slices_IndexFunc_Fault__impl_OpenFaults_1_DD : DOk Try.prog (DD [(86, dP D_impl_OpenFaults_1)]) := DD_cons D_impl_OpenFaults_1_ok.e <| DD_nil _
def slices_IndexFunc_Fault__impl_OpenFaults_1_b1 (a0 : (List Fault)) (i1 : Nat) (s1 : Unit) : Except (Int) (Unit) :=
  (bif (impl_OpenFaults_1 (a0.getD i1 default)) then .error (i1 : Int) else .ok ())

def slices_IndexFunc_Fault__impl_OpenFaults_1 (a0 : (List Fault)) : Int :=
  (match loopR (slices_IndexFunc_Fault__impl_OpenFaults_1_b1 a0) (a0.length - 0) 0 () with | .error e => e | .ok s1 => (-1))

theorem slices_IndexFunc_Fault__impl_OpenFaults_1_den (a0 : (List Fault)) (hb0 : a0.length < 1099511627776) : Den Try.prog 106 [encL 4 eFault a0, .fn 86 0 []] (.int .i64 (slices_IndexFunc_Fault__impl_OpenFaults_1 a0)) := by
  generalize hR : slices_IndexFunc_Fault__impl_OpenFaults_1 a0 = r
  unfold slices_IndexFunc_Fault__impl_OpenFaults_1 at hR
  refine den_intro G_ok Try.func106 (by kernel_rfl) rfl Try.ntmps106 (by rw [Try.results106]) (by simp) rfl ?_
  intro c hc hk
  simp only [pars, Nat.zero_add]
  refine AWP.seq ?_
  refine AWP.regS G_ok slices_IndexFunc_Fault__impl_OpenFaults_1_DD hc (by kernel_rfl) (fun K hK => ?_); simp only [ea, gv, sv, D_impl_OpenFaults_1, reduceCtorEq, reduceIte, Nat.reduceBEq, Nat.reduceAdd, Nat.reduceEqDiff, Nat.reduceLT, Nat.reduceLeDiff, Nat.reduceMul, Nat.reduceSub, BEq.rfl, beq_self_eq_true, Int.reduceToNat]
  first | refine hK _ ?_ | refine ⟨by (first | trivial | omega | (simp only [ob, ln, bdv, sv] at *; omega) | ((try clear hK K); (repeat' first | apply And.intro | intro _) <;> first | trivial | omega | assumption | solve_by_elim | (apply bd_getD <;> first | assumption | decide) | (apply bd_subL <;> first | assumption | decide) | (simp only [ob, ln, bdv, sv] at *; first | omega | assumption | (simp_all; done) | grind))), hK _ ?_⟩
  clear hK K
  refine AWP.seq ?_
  refine AWP.seq ?_
  refine AWP.regS G_ok slices_IndexFunc_Fault__impl_OpenFaults_1_DD hc (by kernel_rfl) (fun K hK => ?_); simp only [ea, gv, sv, D_impl_OpenFaults_1, reduceCtorEq, reduceIte, Nat.reduceBEq, Nat.reduceAdd, Nat.reduceEqDiff, Nat.reduceLT, Nat.reduceLeDiff, Nat.reduceMul, Nat.reduceSub, BEq.rfl, beq_self_eq_true, Int.reduceToNat]
  first | refine hK _ ?_ | refine ⟨by (first | trivial | omega | (simp only [ob, ln, bdv, sv] at *; omega) | ((try clear hK K); (repeat' first | apply And.intro | intro _) <;> first | trivial | omega | assumption | solve_by_elim | (apply bd_getD <;> first | assumption | decide) | (apply bd_subL <;> first | assumption | decide) | (simp only [ob, ln, bdv, sv] at *; first | omega | assumption | (simp_all; done) | grind))), hK _ ?_⟩
  clear hK K
  refine AWP.block ?_
  generalize hz1 : loopR (slices_IndexFunc_Fault__impl_OpenFaults_1_b1 a0) (a0.length - 0) 0 () = z1 at hR
  refine AWP.range (slices_IndexFunc_Fault__impl_OpenFaults_1_b1 a0) (fun i1 s1 => ⟨[(0, encL 4 eFault a0), (1, .fn 86 0 []), (7, .int .i64 (a0.length : Int)), (8, .int .i64 (i1 : Int))], []⟩) (fun i1 s1 => True) (a0.length) 0 () [] hz1 (by (first | trivial | omega | (simp only [ob, ln, bdv, sv] at *; omega) | ((try clear hK K); (repeat' first | apply And.intro | intro _) <;> first | trivial | omega | assumption | solve_by_elim | (apply bd_getD <;> first | assumption | decide) | (apply bd_subL <;> first | assumption | decide) | (simp only [ob, ln, bdv, sv] at *; first | omega | assumption | (simp_all; done) | grind)))) (by (first | trivial | (and_intros <;> simp only [ln] <;> omega) | (and_intros <;> simp only [ob, ln] at * <;> omega) | (and_intros <;> first | trivial | omega | assumption | (apply bd_set <;> first | assumption | (apply bd_getD <;> first | assumption | decide)) | (apply bd_app <;> first | assumption | (apply bd_getD <;> first | assumption | decide)) | (simp only [ob, ln, bdv, sv] at *; omega) | (simp; done)))) (by (simp only [si, ea, gv, sv, hk, reduceCtorEq, reduceIte, Nat.reduceBEq, Nat.reduceAdd, Nat.reduceEqDiff, Nat.reduceLT, Nat.reduceLeDiff, Nat.reduceMul, Nat.reduceSub, BEq.rfl, beq_self_eq_true, Int.reduceToNat]; first | done | trivial | (and_intros <;> first | rfl | trivial | omega | (rw [IntKind.wrap_i64]; omega) | (simp only [ln]; done) | (simp only [ob, ln, bdv, sv] at *; first | omega | grind) | (left; intro j hj; simp only [pw, Bool.cond_eq_ite, Bool.and_eq_true, decide_eq_true_eq]; (repeat' split) <;> simp [putL, NoBorL, NoBor]) | (intro j hj; simp only [pw, Bool.cond_eq_ite, Bool.and_eq_true, decide_eq_true_eq]; (try rw [subL_getD _ _ _ _ (by first | assumption | omega)]); (try rw [clearL_getD _ _ _ _ (by first | omega | (simp only [ob, ln, bdv] at *; omega))]); (repeat' split) <;> first | rfl | omega | exact simOL_refl _ | (simp_all; done) | (simp_all; rfl) | (simp_all; omega) | (simp_all; exact simOL_refl _) | (simp [putL, NoBorL, NoBor]; done))))) ?_
  clear hz1
  intro i1 s1 hi1 hW1 hz1
  refine AWP.seq ?_
  refine AWP.regS G_ok slices_IndexFunc_Fault__impl_OpenFaults_1_DD hc (by kernel_rfl) (fun K hK => ?_); simp only [ea, gv, sv, D_impl_OpenFaults_1, reduceCtorEq, reduceIte, Nat.reduceBEq, Nat.reduceAdd, Nat.reduceEqDiff, Nat.reduceLT, Nat.reduceLeDiff, Nat.reduceMul, Nat.reduceSub, BEq.rfl, beq_self_eq_true, Int.reduceToNat]
  first | refine hK _ ?_ | refine ⟨by (first | trivial | omega | (simp only [ob, ln, bdv, sv] at *; omega) | ((try clear hK K); (repeat' first | apply And.intro | intro _) <;> first | trivial | omega | assumption | solve_by_elim | (apply bd_getD <;> first | assumption | decide) | (apply bd_subL <;> first | assumption | decide) | (simp only [ob, ln, bdv, sv] at *; first | omega | assumption | (simp_all; done) | grind))), hK _ ?_⟩
  clear hK K
  refine AWP.seq ?_
  refine AWP.cond rfl (fun hb => ?_) (fun hb => ?_)
  · have hlt1 : i1 < a0.length := by (first | trivial | omega | (simp only [ob, ln, bdv, sv] at *; omega) | ((try clear hK K); (repeat' first | apply And.intro | intro _) <;> first | trivial | omega | assumption | solve_by_elim | (apply bd_getD <;> first | assumption | decide) | (apply bd_subL <;> first | assumption | decide) | (simp only [ob, ln, bdv, sv] at *; first | omega | assumption | (simp_all; done) | grind)))
    rw [loopR_lt hlt1] at hz1; simp only [slices_IndexFunc_Fault__impl_OpenFaults_1_b1] at hz1
    refine AWP.skip ?_
    refine AWP.seq ?_
    refine AWP.block ?_
    refine AWP.seq ?_
    refine AWP.regS G_ok slices_IndexFunc_Fault__impl_OpenFaults_1_DD hc (by kernel_rfl) (fun K hK => ?_); simp only [ea, gv, sv, D_impl_OpenFaults_1, reduceCtorEq, reduceIte, Nat.reduceBEq, Nat.reduceAdd, Nat.reduceEqDiff, Nat.reduceLT, Nat.reduceLeDiff, Nat.reduceMul, Nat.reduceSub, BEq.rfl, beq_self_eq_true, Int.reduceToNat]
    first | refine hK _ ?_ | refine ⟨by (first | trivial | omega | (simp only [ob, ln, bdv, sv] at *; omega) | ((try clear hK K); (repeat' first | apply And.intro | intro _) <;> first | trivial | omega | assumption | solve_by_elim | (apply bd_getD <;> first | assumption | decide) | (apply bd_subL <;> first | assumption | decide) | (simp only [ob, ln, bdv, sv] at *; first | omega | assumption | (simp_all; done) | grind))), hK _ ?_⟩
    clear hK K
    refine AWP.seq ?_
    refine AWP.regS G_ok slices_IndexFunc_Fault__impl_OpenFaults_1_DD hc (by kernel_rfl) (fun K hK => ?_); simp only [ea, gv, sv, D_impl_OpenFaults_1, reduceCtorEq, reduceIte, Nat.reduceBEq, Nat.reduceAdd, Nat.reduceEqDiff, Nat.reduceLT, Nat.reduceLeDiff, Nat.reduceMul, Nat.reduceSub, BEq.rfl, beq_self_eq_true, Int.reduceToNat]
    first | refine hK _ ?_ | refine ⟨by (first | trivial | omega | (simp only [ob, ln, bdv, sv] at *; omega) | ((try clear hK K); (repeat' first | apply And.intro | intro _) <;> first | trivial | omega | assumption | solve_by_elim | (apply bd_getD <;> first | assumption | decide) | (apply bd_subL <;> first | assumption | decide) | (simp only [ob, ln, bdv, sv] at *; first | omega | assumption | (simp_all; done) | grind))), hK _ ?_⟩
    clear hK K
    refine AWP.cond rfl (fun hb => ?_) (fun hb => ?_)
    · first | simp only [hb, cond_true] at hz1 | (simp only [*] at hb; simp only [hb, cond_true] at hz1)
      refine AWP.seq ?_
      refine AWP.regS G_ok slices_IndexFunc_Fault__impl_OpenFaults_1_DD hc (by kernel_rfl) (fun K hK => ?_); simp only [ea, gv, sv, D_impl_OpenFaults_1, reduceCtorEq, reduceIte, Nat.reduceBEq, Nat.reduceAdd, Nat.reduceEqDiff, Nat.reduceLT, Nat.reduceLeDiff, Nat.reduceMul, Nat.reduceSub, BEq.rfl, beq_self_eq_true, Int.reduceToNat]
      first | refine hK _ ?_ | refine ⟨by (first | trivial | omega | (simp only [ob, ln, bdv, sv] at *; omega) | ((try clear hK K); (repeat' first | apply And.intro | intro _) <;> first | trivial | omega | assumption | solve_by_elim | (apply bd_getD <;> first | assumption | decide) | (apply bd_subL <;> first | assumption | decide) | (simp only [ob, ln, bdv, sv] at *; first | omega | assumption | (simp_all; done) | grind))), hK _ ?_⟩
      clear hK K
      refine AWP.ret ?_
      subst hz1
      dsimp only at hR
      subst hR
      (simp only [en, si, ea, gv, sv, hk, reduceCtorEq, reduceIte, Nat.reduceBEq, Nat.reduceAdd, Nat.reduceEqDiff, Nat.reduceLT, Nat.reduceLeDiff, Nat.reduceMul, Nat.reduceSub, BEq.rfl, beq_self_eq_true, Int.reduceToNat]; first | done | trivial | (and_intros <;> first | rfl | trivial | omega | (rw [IntKind.wrap_i64]; omega) | (simp only [ln]; done) | (simp only [ob, ln, bdv, sv] at *; first | omega | grind) | (left; intro j hj; simp only [pw, Bool.cond_eq_ite, Bool.and_eq_true, decide_eq_true_eq]; (repeat' split) <;> simp [putL, NoBorL, NoBor]) | (intro j hj; simp only [pw, Bool.cond_eq_ite, Bool.and_eq_true, decide_eq_true_eq]; (try rw [subL_getD _ _ _ _ (by first | assumption | omega)]); (try rw [clearL_getD _ _ _ _ (by first | omega | (simp only [ob, ln, bdv] at *; omega))]); (repeat' split) <;> first | rfl | omega | exact simOL_refl _ | (simp_all; done) | (simp_all; rfl) | (simp_all; omega) | (simp_all; exact simOL_refl _) | (simp [putL, NoBorL, NoBor]; done))))
    · first | simp only [hb, cond_false] at hz1 | (simp only [*] at hb; simp only [hb, cond_false] at hz1)
      refine AWP.skip ?_
      refine AWP.regS G_ok slices_IndexFunc_Fault__impl_OpenFaults_1_DD hc (by kernel_rfl) (fun K hK => ?_); simp only [ea, gv, sv, D_impl_OpenFaults_1, reduceCtorEq, reduceIte, Nat.reduceBEq, Nat.reduceAdd, Nat.reduceEqDiff, Nat.reduceLT, Nat.reduceLeDiff, Nat.reduceMul, Nat.reduceSub, BEq.rfl, beq_self_eq_true, Int.reduceToNat]
      first | refine hK _ ?_ | refine ⟨by (first | trivial | omega | (simp only [ob, ln, bdv, sv] at *; omega) | ((try clear hK K); (repeat' first | apply And.intro | intro _) <;> first | trivial | omega | assumption | solve_by_elim | (apply bd_getD <;> first | assumption | decide) | (apply bd_subL <;> first | assumption | decide) | (simp only [ob, ln, bdv, sv] at *; first | omega | assumption | (simp_all; done) | grind))), hK _ ?_⟩
      clear hK K
      exact ⟨_, [], hlt1, by (first | trivial | (and_intros <;> simp only [ln] <;> omega) | (and_intros <;> simp only [ob, ln] at * <;> omega) | (and_intros <;> first | trivial | omega | assumption | (apply bd_set <;> first | assumption | (apply bd_getD <;> first | assumption | decide)) | (apply bd_app <;> first | assumption | (apply bd_getD <;> first | assumption | decide)) | (simp only [ob, ln, bdv, sv] at *; omega) | (simp; done))), hz1, by (simp only [si, ea, gv, sv, hk, reduceCtorEq, reduceIte, Nat.reduceBEq, Nat.reduceAdd, Nat.reduceEqDiff, Nat.reduceLT, Nat.reduceLeDiff, Nat.reduceMul, Nat.reduceSub, BEq.rfl, beq_self_eq_true, Int.reduceToNat]; first | done | trivial | (and_intros <;> first | rfl | trivial | omega | (rw [IntKind.wrap_i64]; omega) | (simp only [ln]; done) | (simp only [ob, ln, bdv, sv] at *; first | omega | grind) | (left; intro j hj; simp only [pw, Bool.cond_eq_ite, Bool.and_eq_true, decide_eq_true_eq]; (repeat' split) <;> simp [putL, NoBorL, NoBor]) | (intro j hj; simp only [pw, Bool.cond_eq_ite, Bool.and_eq_true, decide_eq_true_eq]; (try rw [subL_getD _ _ _ _ (by first | assumption | omega)]); (try rw [clearL_getD _ _ _ _ (by first | omega | (simp only [ob, ln, bdv] at *; omega))]); (repeat' split) <;> first | rfl | omega | exact simOL_refl _ | (simp_all; done) | (simp_all; rfl) | (simp_all; omega) | (simp_all; exact simOL_refl _) | (simp [putL, NoBorL, NoBor]; done))))⟩
  · obtain rfl : i1 = a0.length := by (first | trivial | omega | (simp only [ob, ln, bdv, sv] at *; omega) | ((try clear hK K); (repeat' first | apply And.intro | intro _) <;> first | trivial | omega | assumption | solve_by_elim | (apply bd_getD <;> first | assumption | decide) | (apply bd_subL <;> first | assumption | decide) | (simp only [ob, ln, bdv, sv] at *; first | omega | assumption | (simp_all; done) | grind)))
    rw [loopR_ge (Nat.le_refl _)] at hz1; subst hz1; dsimp only at hR
    refine AWP.exit ?_; refine exitTo_here ?_
    refine AWP.seq ?_
    refine AWP.regS G_ok slices_IndexFunc_Fault__impl_OpenFaults_1_DD hc (by kernel_rfl) (fun K hK => ?_); simp only [ea, gv, sv, D_impl_OpenFaults_1, reduceCtorEq, reduceIte, Nat.reduceBEq, Nat.reduceAdd, Nat.reduceEqDiff, Nat.reduceLT, Nat.reduceLeDiff, Nat.reduceMul, Nat.reduceSub, BEq.rfl, beq_self_eq_true, Int.reduceToNat]
    first | refine hK _ ?_ | refine ⟨by (first | trivial | omega | (simp only [ob, ln, bdv, sv] at *; omega) | ((try clear hK K); (repeat' first | apply And.intro | intro _) <;> first | trivial | omega | assumption | solve_by_elim | (apply bd_getD <;> first | assumption | decide) | (apply bd_subL <;> first | assumption | decide) | (simp only [ob, ln, bdv, sv] at *; first | omega | assumption | (simp_all; done) | grind))), hK _ ?_⟩
    clear hK K
    refine AWP.ret ?_
    subst hR
    (simp only [en, si, ea, gv, sv, hk, reduceCtorEq, reduceIte, Nat.reduceBEq, Nat.reduceAdd, Nat.reduceEqDiff, Nat.reduceLT, Nat.reduceLeDiff, Nat.reduceMul, Nat.reduceSub, BEq.rfl, beq_self_eq_true, Int.reduceToNat]; first | done | trivial | (and_intros <;> first | rfl | trivial | omega | (rw [IntKind.wrap_i64]; omega) | (simp only [ln]; done) | (simp only [ob, ln, bdv, sv] at *; first | omega | grind) | (left; intro j hj; simp only [pw, Bool.cond_eq_ite, Bool.and_eq_true, decide_eq_true_eq]; (repeat' split) <;> simp [putL, NoBorL, NoBor]) | (intro j hj; simp only [pw, Bool.cond_eq_ite, Bool.and_eq_true, decide_eq_true_eq]; (try rw [subL_getD _ _ _ _ (by first | assumption | omega)]); (try rw [clearL_getD _ _ _ _ (by first | omega | (simp only [ob, ln, bdv] at *; omega))]); (repeat' split) <;> first | rfl | omega | exact simOL_refl _ | (simp_all; done) | (simp_all; rfl) | (simp_all; omega) | (simp_all; exact simOL_refl _) | (simp [putL, NoBorL, NoBor]; done))))

def D_slices_IndexFunc_Fault__impl_OpenFaults_1 : DF
  | [x0, (.fn f86_1 kf86_1 [])] => some (.int .i64 (slices_IndexFunc_Fault__impl_OpenFaults_1 (rdL dFault x0)), false, [wL 4 eFault dFault x0, f86_1 = 86, kf86_1 = 0, (rdL dFault x0).length < 1099511627776])
  | _ => none
theorem D_slices_IndexFunc_Fault__impl_OpenFaults_1_ok : OkD Try.prog 106 D_slices_IndexFunc_Fault__impl_OpenFaults_1 := by
  intro xs r z ob h ho
  unfold D_slices_IndexFunc_Fault__impl_OpenFaults_1 at h
  split at h
  · simp only [Option.some.injEq, Prod.mk.injEq] at h
    obtain ⟨rfl, rfl, rfl⟩ := h
    obtain ⟨h0, qf86_1, qkf86_1, hb0, _⟩ := ho
    exact Den.sim (slices_IndexFunc_Fault__impl_OpenFaults_1_den _ hb0) (simOL_cons (wL_sim h0).1 <| simOL_cons (by subst qf86_1 qkf86_1; exact simO_refl _) <| trivial) (noIdL_cons (wL_sim h0).2 <| noIdL_cons (by rfl) <| rfl) rfl
  · cases h
end Go.Ab

namespace Go.Ab
open Go Go.Proofs
theorem slices_IndexFunc_Fault__impl_OpenFaults_1_first (a0 : List Fault) : (∃ j, j < a0.length ∧ (impl_OpenFaults_1 (a0.getD j default)) = true ∧ (∀ q, q < j → (impl_OpenFaults_1 (a0.getD q default)) = false) ∧ slices_IndexFunc_Fault__impl_OpenFaults_1 a0 = (j : Int)) ∨ ((∀ q, q < a0.length → (impl_OpenFaults_1 (a0.getD q default)) = false) ∧ slices_IndexFunc_Fault__impl_OpenFaults_1 a0 = -1) := by
  unfold slices_IndexFunc_Fault__impl_OpenFaults_1
  rcases loopR_first (b := slices_IndexFunc_Fault__impl_OpenFaults_1_b1 a0) (fun j => impl_OpenFaults_1 (a0.getD j default)) (fun j => (j : Int)) (k := a0.length - 0) (i := 0) (s := ()) (fun j u _ _ => rfl) with ⟨j, _, h2, h3, h4, h5⟩ | ⟨h1, h2⟩
  · left
    rw [h5]
    exact ⟨j, by omega, h3, fun q hq => h4 q (Nat.zero_le _) hq, rfl⟩
  · right
    rw [h2]
    exact ⟨fun q hq => h1 q (Nat.zero_le _) (by omega), rfl⟩
theorem slices_IndexFunc_Fault__impl_OpenFaults_1_lt (a0 : List Fault) : -1 ≤ slices_IndexFunc_Fault__impl_OpenFaults_1 a0 ∧ slices_IndexFunc_Fault__impl_OpenFaults_1 a0 < a0.length := by
  rcases slices_IndexFunc_Fault__impl_OpenFaults_1_first a0 with ⟨j, h1, _, _, h2⟩ | ⟨_, h2⟩ <;> omega
end Go.Ab

namespace Go.Ab
open Go Go.Proofs
theorem slices_DeleteFunc_Fault__impl_OpenFaults_1_DD : DOk Try.prog (DD [(106, dP D_slices_IndexFunc_Fault__impl_OpenFaults_1), (86, dP D_impl_OpenFaults_1)]) := DD_cons D_slices_IndexFunc_Fault__impl_OpenFaults_1_ok.e <| DD_cons D_impl_OpenFaults_1_ok.e <| DD_nil _
def slices_DeleteFunc_Fault__impl_OpenFaults_1_b1 (a0 : (List Fault)) (i1 : Nat) (s1 : Int × List Fault) : Except ((List Fault)) (Int × List Fault) :=
  (bif (!(impl_OpenFaults_1 (s1.2.getD i1 default))) then .ok (IntKind.wrap .i64 (s1.1 + 1), s1.2.set ((s1.1).toNat) (s1.2.getD i1 default)) else .ok (s1.1, s1.2))

def slices_DeleteFunc_Fault__impl_OpenFaults_1 (a0 : (List Fault)) : (List Fault) :=
  (bif ((slices_IndexFunc_Fault__impl_OpenFaults_1 a0) == (-1)) then a0 else (match loopR (slices_DeleteFunc_Fault__impl_OpenFaults_1_b1 a0) (a0.length - (IntKind.wrap .i64 ((slices_IndexFunc_Fault__impl_OpenFaults_1 a0) + 1)).toNat) ((IntKind.wrap .i64 ((slices_IndexFunc_Fault__impl_OpenFaults_1 a0) + 1)).toNat) ((slices_IndexFunc_Fault__impl_OpenFaults_1 a0), a0) with | .error e => e | .ok s1 => subL (clearL s1.2 ((s1.1).toNat) (s1.2.length - (s1.1).toNat)) 0 ((s1.1).toNat)))

theorem slices_DeleteFunc_Fault__impl_OpenFaults_1_den (a0 : (List Fault)) (hb0 : a0.length < 1099511627776) : DenM Try.prog 85 [ownL 70 4 eFault a0, .fn 86 0 []] (ownL 70 4 eFault (slices_DeleteFunc_Fault__impl_OpenFaults_1 a0)) [.any, .any] := by
  generalize hR : slices_DeleteFunc_Fault__impl_OpenFaults_1 a0 = r
  unfold slices_DeleteFunc_Fault__impl_OpenFaults_1 at hR
  refine den_introM (gb := [false, false]) G_ok Try.func85 (by kernel_rfl) rfl Try.ntmps85 (by rw [Try.results85]) (by simp) ?_
  intro c hc hk
  simp only [adEL, adE, adRL, adR, ownL, encL, sv, List.nil_append, List.append_nil, List.cons_append, List.length_cons, List.length_nil, pars, Nat.zero_add, Nat.reduceAdd] at hk ⊢
  have hf := slices_IndexFunc_Fault__impl_OpenFaults_1_lt a0
  refine AWP.seq ?_
  refine AWP.regS G_ok slices_DeleteFunc_Fault__impl_OpenFaults_1_DD hc (by kernel_rfl) (fun K hK => ?_); simp only [ea, gv, sv, D_slices_IndexFunc_Fault__impl_OpenFaults_1, D_impl_OpenFaults_1, reduceCtorEq, reduceIte, Nat.reduceBEq, Nat.reduceAdd, Nat.reduceEqDiff, Nat.reduceLT, Nat.reduceLeDiff, Nat.reduceMul, Nat.reduceSub, BEq.rfl, beq_self_eq_true, Int.reduceToNat]
  first | refine hK _ ?_ | refine ⟨by (first | trivial | omega | (simp only [ob, ln, bdv, sv] at *; omega) | ((try clear hK K); (repeat' first | apply And.intro | intro _) <;> first | trivial | omega | assumption | solve_by_elim | (apply bd_getD <;> first | assumption | decide) | (apply bd_subL <;> first | assumption | decide) | (simp only [ob, ln, bdv, sv] at *; first | omega | assumption | (simp_all; done) | grind [slices_IndexFunc_Fault__impl_OpenFaults_1_lt]))), hK _ ?_⟩
  clear hK K
  refine AWP.seq ?_
  refine AWP.regS G_ok slices_DeleteFunc_Fault__impl_OpenFaults_1_DD hc (by kernel_rfl) (fun K hK => ?_); simp only [ea, gv, sv, D_slices_IndexFunc_Fault__impl_OpenFaults_1, D_impl_OpenFaults_1, reduceCtorEq, reduceIte, Nat.reduceBEq, Nat.reduceAdd, Nat.reduceEqDiff, Nat.reduceLT, Nat.reduceLeDiff, Nat.reduceMul, Nat.reduceSub, BEq.rfl, beq_self_eq_true, Int.reduceToNat]
  first | refine hK _ ?_ | refine ⟨by (first | trivial | omega | (simp only [ob, ln, bdv, sv] at *; omega) | ((try clear hK K); (repeat' first | apply And.intro | intro _) <;> first | trivial | omega | assumption | solve_by_elim | (apply bd_getD <;> first | assumption | decide) | (apply bd_subL <;> first | assumption | decide) | (simp only [ob, ln, bdv, sv] at *; first | omega | assumption | (simp_all; done) | grind [slices_IndexFunc_Fault__impl_OpenFaults_1_lt]))), hK _ ?_⟩
  clear hK K
  refine AWP.seq ?_
  refine AWP.seq ?_
  refine AWP.regS G_ok slices_DeleteFunc_Fault__impl_OpenFaults_1_DD hc (by kernel_rfl) (fun K hK => ?_); simp only [ea, gv, sv, D_slices_IndexFunc_Fault__impl_OpenFaults_1, D_impl_OpenFaults_1, reduceCtorEq, reduceIte, Nat.reduceBEq, Nat.reduceAdd, Nat.reduceEqDiff, Nat.reduceLT, Nat.reduceLeDiff, Nat.reduceMul, Nat.reduceSub, BEq.rfl, beq_self_eq_true, Int.reduceToNat]
  first | refine hK _ ?_ | refine ⟨by (first | trivial | omega | (simp only [ob, ln, bdv, sv] at *; omega) | ((try clear hK K); (repeat' first | apply And.intro | intro _) <;> first | trivial | omega | assumption | solve_by_elim | (apply bd_getD <;> first | assumption | decide) | (apply bd_subL <;> first | assumption | decide) | (simp only [ob, ln, bdv, sv] at *; first | omega | assumption | (simp_all; done) | grind [slices_IndexFunc_Fault__impl_OpenFaults_1_lt]))), hK _ ?_⟩
  clear hK K
  refine AWP.cond rfl (fun hb => ?_) (fun hb => ?_)
  · first | simp only [hb, cond_true] at hR | (simp only [*] at hb; simp only [hb, cond_true] at hR)
    refine AWP.seq ?_
    refine AWP.regS G_ok slices_DeleteFunc_Fault__impl_OpenFaults_1_DD hc (by kernel_rfl) (fun K hK => ?_); simp only [ea, gv, sv, D_slices_IndexFunc_Fault__impl_OpenFaults_1, D_impl_OpenFaults_1, reduceCtorEq, reduceIte, Nat.reduceBEq, Nat.reduceAdd, Nat.reduceEqDiff, Nat.reduceLT, Nat.reduceLeDiff, Nat.reduceMul, Nat.reduceSub, BEq.rfl, beq_self_eq_true, Int.reduceToNat]
    first | refine hK _ ?_ | refine ⟨by (first | trivial | omega | (simp only [ob, ln, bdv, sv] at *; omega) | ((try clear hK K); (repeat' first | apply And.intro | intro _) <;> first | trivial | omega | assumption | solve_by_elim | (apply bd_getD <;> first | assumption | decide) | (apply bd_subL <;> first | assumption | decide) | (simp only [ob, ln, bdv, sv] at *; first | omega | assumption | (simp_all; done) | grind [slices_IndexFunc_Fault__impl_OpenFaults_1_lt]))), hK _ ?_⟩
    clear hK K
    refine AWP.ret ?_
    subst hR
    (simp only [en, si, ea, gv, sv, hk, reduceCtorEq, reduceIte, Nat.reduceBEq, Nat.reduceAdd, Nat.reduceEqDiff, Nat.reduceLT, Nat.reduceLeDiff, Nat.reduceMul, Nat.reduceSub, BEq.rfl, beq_self_eq_true, Int.reduceToNat]; first | done | trivial | (and_intros <;> first | rfl | trivial | omega | (rw [IntKind.wrap_i64]; omega) | (simp only [ln]; done) | (simp only [ob, ln, bdv, sv] at *; first | omega | grind [slices_IndexFunc_Fault__impl_OpenFaults_1_lt]) | (left; intro j hj; simp only [pw, Bool.cond_eq_ite, Bool.and_eq_true, decide_eq_true_eq]; (repeat' split) <;> simp [putL, NoBorL, NoBor]) | (intro j hj; simp only [pw, Bool.cond_eq_ite, Bool.and_eq_true, decide_eq_true_eq]; (try rw [subL_getD _ _ _ _ (by first | assumption | omega)]); (try rw [clearL_getD _ _ _ _ (by first | omega | (simp only [ob, ln, bdv] at *; omega))]); (repeat' split) <;> first | rfl | omega | exact simOL_refl _ | (simp_all; done) | (simp_all; rfl) | (simp_all; omega) | (simp_all; exact simOL_refl _) | (simp [putL, NoBorL, NoBor]; done))))
  · first | simp only [hb, cond_false] at hR | (simp only [*] at hb; simp only [hb, cond_false] at hR)
    refine AWP.skip ?_
    refine AWP.seq ?_
    refine AWP.seq ?_
    refine AWP.regS G_ok slices_DeleteFunc_Fault__impl_OpenFaults_1_DD hc (by kernel_rfl) (fun K hK => ?_); simp only [ea, gv, sv, D_slices_IndexFunc_Fault__impl_OpenFaults_1, D_impl_OpenFaults_1, reduceCtorEq, reduceIte, Nat.reduceBEq, Nat.reduceAdd, Nat.reduceEqDiff, Nat.reduceLT, Nat.reduceLeDiff, Nat.reduceMul, Nat.reduceSub, BEq.rfl, beq_self_eq_true, Int.reduceToNat]
    first | refine hK _ ?_ | refine ⟨by (first | trivial | omega | (simp only [ob, ln, bdv, sv] at *; omega) | ((try clear hK K); (repeat' first | apply And.intro | intro _) <;> first | trivial | omega | assumption | solve_by_elim | (apply bd_getD <;> first | assumption | decide) | (apply bd_subL <;> first | assumption | decide) | (simp only [ob, ln, bdv, sv] at *; first | omega | assumption | (simp_all; done) | grind [slices_IndexFunc_Fault__impl_OpenFaults_1_lt]))), hK _ ?_⟩
    clear hK K
    refine AWP.block ?_
    generalize hz1 : loopR (slices_DeleteFunc_Fault__impl_OpenFaults_1_b1 a0) (a0.length - (IntKind.wrap .i64 ((slices_IndexFunc_Fault__impl_OpenFaults_1 a0) + 1)).toNat) ((IntKind.wrap .i64 ((slices_IndexFunc_Fault__impl_OpenFaults_1 a0) + 1)).toNat) ((slices_IndexFunc_Fault__impl_OpenFaults_1 a0), a0) = z1 at hR
    refine AWP.range (slices_DeleteFunc_Fault__impl_OpenFaults_1_b1 a0) (fun i1 s1 => ⟨[(0, .ref 0 4 0 s1.2.length), (1, .fn 86 0 []), (5, .int .i64 s1.1), (6, .int .i64 (i1 : Int))], [.arr 70 4 s1.2.length (fun j => eFault (s1.2.getD j default))]⟩) (fun i1 s1 => ((IntKind.wrap .i64 ((slices_IndexFunc_Fault__impl_OpenFaults_1 a0) + 1)).toNat) ≤ i1 ∧ s1.2.length = a0.length ∧ 0 ≤ s1.1 ∧ s1.1 < i1) (a0.length) ((IntKind.wrap .i64 ((slices_IndexFunc_Fault__impl_OpenFaults_1 a0) + 1)).toNat) ((slices_IndexFunc_Fault__impl_OpenFaults_1 a0), a0) [0] hz1 (by (first | trivial | omega | (simp only [ob, ln, bdv, sv] at *; omega) | ((try clear hK K); (repeat' first | apply And.intro | intro _) <;> first | trivial | omega | assumption | solve_by_elim | (apply bd_getD <;> first | assumption | decide) | (apply bd_subL <;> first | assumption | decide) | (simp only [ob, ln, bdv, sv] at *; first | omega | assumption | (simp_all; done) | grind [slices_IndexFunc_Fault__impl_OpenFaults_1_lt])))) (by (first | trivial | (and_intros <;> simp only [ln] <;> omega) | (and_intros <;> simp only [ob, ln] at * <;> omega) | (and_intros <;> first | trivial | omega | assumption | (apply bd_set <;> first | assumption | (apply bd_getD <;> first | assumption | decide)) | (apply bd_app <;> first | assumption | (apply bd_getD <;> first | assumption | decide)) | (simp only [ob, ln, bdv, sv] at *; omega) | (simp; done)))) (by (simp only [si, ea, gv, sv, hk, reduceCtorEq, reduceIte, Nat.reduceBEq, Nat.reduceAdd, Nat.reduceEqDiff, Nat.reduceLT, Nat.reduceLeDiff, Nat.reduceMul, Nat.reduceSub, BEq.rfl, beq_self_eq_true, Int.reduceToNat]; first | done | trivial | (and_intros <;> first | rfl | trivial | omega | (rw [IntKind.wrap_i64]; omega) | (simp only [ln]; done) | (simp only [ob, ln, bdv, sv] at *; first | omega | grind [slices_IndexFunc_Fault__impl_OpenFaults_1_lt]) | (left; intro j hj; simp only [pw, Bool.cond_eq_ite, Bool.and_eq_true, decide_eq_true_eq]; (repeat' split) <;> simp [putL, NoBorL, NoBor]) | (intro j hj; simp only [pw, Bool.cond_eq_ite, Bool.and_eq_true, decide_eq_true_eq]; (try rw [subL_getD _ _ _ _ (by first | assumption | omega)]); (try rw [clearL_getD _ _ _ _ (by first | omega | (simp only [ob, ln, bdv] at *; omega))]); (repeat' split) <;> first | rfl | omega | exact simOL_refl _ | (simp_all; done) | (simp_all; rfl) | (simp_all; omega) | (simp_all; exact simOL_refl _) | (simp [putL, NoBorL, NoBor]; done))))) ?_
    clear hz1
    intro i1 s1 hi1 hW1 hz1
    refine AWP.seq ?_
    refine AWP.seq ?_
    refine AWP.regS G_ok slices_DeleteFunc_Fault__impl_OpenFaults_1_DD hc (by kernel_rfl) (fun K hK => ?_); simp only [ea, gv, sv, D_slices_IndexFunc_Fault__impl_OpenFaults_1, D_impl_OpenFaults_1, reduceCtorEq, reduceIte, Nat.reduceBEq, Nat.reduceAdd, Nat.reduceEqDiff, Nat.reduceLT, Nat.reduceLeDiff, Nat.reduceMul, Nat.reduceSub, BEq.rfl, beq_self_eq_true, Int.reduceToNat]
    first | refine hK _ ?_ | refine ⟨by (first | trivial | omega | (simp only [ob, ln, bdv, sv] at *; omega) | ((try clear hK K); (repeat' first | apply And.intro | intro _) <;> first | trivial | omega | assumption | solve_by_elim | (apply bd_getD <;> first | assumption | decide) | (apply bd_subL <;> first | assumption | decide) | (simp only [ob, ln, bdv, sv] at *; first | omega | assumption | (simp_all; done) | grind [slices_IndexFunc_Fault__impl_OpenFaults_1_lt]))), hK _ ?_⟩
    clear hK K
    refine AWP.cond rfl (fun hb => ?_) (fun hb => ?_)
    · have hlt1 : i1 < a0.length := by (first | trivial | omega | (simp only [ob, ln, bdv, sv] at *; omega) | ((try clear hK K); (repeat' first | apply And.intro | intro _) <;> first | trivial | omega | assumption | solve_by_elim | (apply bd_getD <;> first | assumption | decide) | (apply bd_subL <;> first | assumption | decide) | (simp only [ob, ln, bdv, sv] at *; first | omega | assumption | (simp_all; done) | grind [slices_IndexFunc_Fault__impl_OpenFaults_1_lt])))
      rw [loopR_lt hlt1] at hz1; simp only [slices_DeleteFunc_Fault__impl_OpenFaults_1_b1] at hz1
      refine AWP.skip ?_
      refine AWP.seq ?_
      refine AWP.block ?_
      refine AWP.seq ?_
      refine AWP.regS G_ok slices_DeleteFunc_Fault__impl_OpenFaults_1_DD hc (by kernel_rfl) (fun K hK => ?_); simp only [ea, gv, sv, D_slices_IndexFunc_Fault__impl_OpenFaults_1, D_impl_OpenFaults_1, reduceCtorEq, reduceIte, Nat.reduceBEq, Nat.reduceAdd, Nat.reduceEqDiff, Nat.reduceLT, Nat.reduceLeDiff, Nat.reduceMul, Nat.reduceSub, BEq.rfl, beq_self_eq_true, Int.reduceToNat]
      first | refine hK _ ?_ | refine ⟨by (first | trivial | omega | (simp only [ob, ln, bdv, sv] at *; omega) | ((try clear hK K); (repeat' first | apply And.intro | intro _) <;> first | trivial | omega | assumption | solve_by_elim | (apply bd_getD <;> first | assumption | decide) | (apply bd_subL <;> first | assumption | decide) | (simp only [ob, ln, bdv, sv] at *; first | omega | assumption | (simp_all; done) | grind [slices_IndexFunc_Fault__impl_OpenFaults_1_lt]))), hK _ ?_⟩
      clear hK K
      refine AWP.seq ?_
      refine AWP.regS G_ok slices_DeleteFunc_Fault__impl_OpenFaults_1_DD hc (by kernel_rfl) (fun K hK => ?_); simp only [ea, gv, sv, D_slices_IndexFunc_Fault__impl_OpenFaults_1, D_impl_OpenFaults_1, reduceCtorEq, reduceIte, Nat.reduceBEq, Nat.reduceAdd, Nat.reduceEqDiff, Nat.reduceLT, Nat.reduceLeDiff, Nat.reduceMul, Nat.reduceSub, BEq.rfl, beq_self_eq_true, Int.reduceToNat]
      first | refine hK _ ?_ | refine ⟨by (first | trivial | omega | (simp only [ob, ln, bdv, sv] at *; omega) | ((try clear hK K); (repeat' first | apply And.intro | intro _) <;> first | trivial | omega | assumption | solve_by_elim | (apply bd_getD <;> first | assumption | decide) | (apply bd_subL <;> first | assumption | decide) | (simp only [ob, ln, bdv, sv] at *; first | omega | assumption | (simp_all; done) | grind [slices_IndexFunc_Fault__impl_OpenFaults_1_lt]))), hK _ ?_⟩
      clear hK K
      refine AWP.cond rfl (fun hb => ?_) (fun hb => ?_)
      · first | simp only [hb, cond_true] at hz1 | (simp only [*] at hb; simp only [hb, cond_true] at hz1)
        refine AWP.seq ?_
        refine AWP.regS G_ok slices_DeleteFunc_Fault__impl_OpenFaults_1_DD hc (by kernel_rfl) (fun K hK => ?_); simp only [ea, gv, sv, D_slices_IndexFunc_Fault__impl_OpenFaults_1, D_impl_OpenFaults_1, reduceCtorEq, reduceIte, Nat.reduceBEq, Nat.reduceAdd, Nat.reduceEqDiff, Nat.reduceLT, Nat.reduceLeDiff, Nat.reduceMul, Nat.reduceSub, BEq.rfl, beq_self_eq_true, Int.reduceToNat]
        first | refine hK _ ?_ | refine ⟨by (first | trivial | omega | (simp only [ob, ln, bdv, sv] at *; omega) | ((try clear hK K); (repeat' first | apply And.intro | intro _) <;> first | trivial | omega | assumption | solve_by_elim | (apply bd_getD <;> first | assumption | decide) | (apply bd_subL <;> first | assumption | decide) | (simp only [ob, ln, bdv, sv] at *; first | omega | assumption | (simp_all; done) | grind [slices_IndexFunc_Fault__impl_OpenFaults_1_lt]))), hK _ ?_⟩
        clear hK K
        refine AWP.regS G_ok slices_DeleteFunc_Fault__impl_OpenFaults_1_DD hc (by kernel_rfl) (fun K hK => ?_); simp only [ea, gv, sv, D_slices_IndexFunc_Fault__impl_OpenFaults_1, D_impl_OpenFaults_1, reduceCtorEq, reduceIte, Nat.reduceBEq, Nat.reduceAdd, Nat.reduceEqDiff, Nat.reduceLT, Nat.reduceLeDiff, Nat.reduceMul, Nat.reduceSub, BEq.rfl, beq_self_eq_true, Int.reduceToNat]
        first | refine hK _ ?_ | refine ⟨by (first | trivial | omega | (simp only [ob, ln, bdv, sv] at *; omega) | ((try clear hK K); (repeat' first | apply And.intro | intro _) <;> first | trivial | omega | assumption | solve_by_elim | (apply bd_getD <;> first | assumption | decide) | (apply bd_subL <;> first | assumption | decide) | (simp only [ob, ln, bdv, sv] at *; first | omega | assumption | (simp_all; done) | grind [slices_IndexFunc_Fault__impl_OpenFaults_1_lt]))), hK _ ?_⟩
        clear hK K
        refine AWP.regS G_ok slices_DeleteFunc_Fault__impl_OpenFaults_1_DD hc (by kernel_rfl) (fun K hK => ?_); simp only [ea, gv, sv, D_slices_IndexFunc_Fault__impl_OpenFaults_1, D_impl_OpenFaults_1, reduceCtorEq, reduceIte, Nat.reduceBEq, Nat.reduceAdd, Nat.reduceEqDiff, Nat.reduceLT, Nat.reduceLeDiff, Nat.reduceMul, Nat.reduceSub, BEq.rfl, beq_self_eq_true, Int.reduceToNat]
        first | refine hK _ ?_ | refine ⟨by (first | trivial | omega | (simp only [ob, ln, bdv, sv] at *; omega) | ((try clear hK K); (repeat' first | apply And.intro | intro _) <;> first | trivial | omega | assumption | solve_by_elim | (apply bd_getD <;> first | assumption | decide) | (apply bd_subL <;> first | assumption | decide) | (simp only [ob, ln, bdv, sv] at *; first | omega | assumption | (simp_all; done) | grind [slices_IndexFunc_Fault__impl_OpenFaults_1_lt]))), hK _ ?_⟩
        clear hK K
        exact ⟨_, [0], hlt1, by (first | trivial | (and_intros <;> simp only [ln] <;> omega) | (and_intros <;> simp only [ob, ln] at * <;> omega) | (and_intros <;> first | trivial | omega | assumption | (apply bd_set <;> first | assumption | (apply bd_getD <;> first | assumption | decide)) | (apply bd_app <;> first | assumption | (apply bd_getD <;> first | assumption | decide)) | (simp only [ob, ln, bdv, sv] at *; omega) | (simp; done))), hz1, by (simp only [si, ea, gv, sv, hk, reduceCtorEq, reduceIte, Nat.reduceBEq, Nat.reduceAdd, Nat.reduceEqDiff, Nat.reduceLT, Nat.reduceLeDiff, Nat.reduceMul, Nat.reduceSub, BEq.rfl, beq_self_eq_true, Int.reduceToNat]; first | done | trivial | (and_intros <;> first | rfl | trivial | omega | (rw [IntKind.wrap_i64]; omega) | (simp only [ln]; done) | (simp only [ob, ln, bdv, sv] at *; first | omega | grind [slices_IndexFunc_Fault__impl_OpenFaults_1_lt]) | (left; intro j hj; simp only [pw, Bool.cond_eq_ite, Bool.and_eq_true, decide_eq_true_eq]; (repeat' split) <;> simp [putL, NoBorL, NoBor]) | (intro j hj; simp only [pw, Bool.cond_eq_ite, Bool.and_eq_true, decide_eq_true_eq]; (try rw [subL_getD _ _ _ _ (by first | assumption | omega)]); (try rw [clearL_getD _ _ _ _ (by first | omega | (simp only [ob, ln, bdv] at *; omega))]); (repeat' split) <;> first | rfl | omega | exact simOL_refl _ | (simp_all; done) | (simp_all; rfl) | (simp_all; omega) | (simp_all; exact simOL_refl _) | (simp [putL, NoBorL, NoBor]; done))))⟩
      · first | simp only [hb, cond_false] at hz1 | (simp only [*] at hb; simp only [hb, cond_false] at hz1)
        refine AWP.skip ?_
        refine AWP.regS G_ok slices_DeleteFunc_Fault__impl_OpenFaults_1_DD hc (by kernel_rfl) (fun K hK => ?_); simp only [ea, gv, sv, D_slices_IndexFunc_Fault__impl_OpenFaults_1, D_impl_OpenFaults_1, reduceCtorEq, reduceIte, Nat.reduceBEq, Nat.reduceAdd, Nat.reduceEqDiff, Nat.reduceLT, Nat.reduceLeDiff, Nat.reduceMul, Nat.reduceSub, BEq.rfl, beq_self_eq_true, Int.reduceToNat]
        first | refine hK _ ?_ | refine ⟨by (first | trivial | omega | (simp only [ob, ln, bdv, sv] at *; omega) | ((try clear hK K); (repeat' first | apply And.intro | intro _) <;> first | trivial | omega | assumption | solve_by_elim | (apply bd_getD <;> first | assumption | decide) | (apply bd_subL <;> first | assumption | decide) | (simp only [ob, ln, bdv, sv] at *; first | omega | assumption | (simp_all; done) | grind [slices_IndexFunc_Fault__impl_OpenFaults_1_lt]))), hK _ ?_⟩
        clear hK K
        exact ⟨_, [0], hlt1, by (first | trivial | (and_intros <;> simp only [ln] <;> omega) | (and_intros <;> simp only [ob, ln] at * <;> omega) | (and_intros <;> first | trivial | omega | assumption | (apply bd_set <;> first | assumption | (apply bd_getD <;> first | assumption | decide)) | (apply bd_app <;> first | assumption | (apply bd_getD <;> first | assumption | decide)) | (simp only [ob, ln, bdv, sv] at *; omega) | (simp; done))), hz1, by (simp only [si, ea, gv, sv, hk, reduceCtorEq, reduceIte, Nat.reduceBEq, Nat.reduceAdd, Nat.reduceEqDiff, Nat.reduceLT, Nat.reduceLeDiff, Nat.reduceMul, Nat.reduceSub, BEq.rfl, beq_self_eq_true, Int.reduceToNat]; first | done | trivial | (and_intros <;> first | rfl | trivial | omega | (rw [IntKind.wrap_i64]; omega) | (simp only [ln]; done) | (simp only [ob, ln, bdv, sv] at *; first | omega | grind [slices_IndexFunc_Fault__impl_OpenFaults_1_lt]) | (left; intro j hj; simp only [pw, Bool.cond_eq_ite, Bool.and_eq_true, decide_eq_true_eq]; (repeat' split) <;> simp [putL, NoBorL, NoBor]) | (intro j hj; simp only [pw, Bool.cond_eq_ite, Bool.and_eq_true, decide_eq_true_eq]; (try rw [subL_getD _ _ _ _ (by first | assumption | omega)]); (try rw [clearL_getD _ _ _ _ (by first | omega | (simp only [ob, ln, bdv] at *; omega))]); (repeat' split) <;> first | rfl | omega | exact simOL_refl _ | (simp_all; done) | (simp_all; rfl) | (simp_all; omega) | (simp_all; exact simOL_refl _) | (simp [putL, NoBorL, NoBor]; done))))⟩
    · obtain rfl : i1 = a0.length := by (first | trivial | omega | (simp only [ob, ln, bdv, sv] at *; omega) | ((try clear hK K); (repeat' first | apply And.intro | intro _) <;> first | trivial | omega | assumption | solve_by_elim | (apply bd_getD <;> first | assumption | decide) | (apply bd_subL <;> first | assumption | decide) | (simp only [ob, ln, bdv, sv] at *; first | omega | assumption | (simp_all; done) | grind [slices_IndexFunc_Fault__impl_OpenFaults_1_lt])))
      rw [loopR_ge (Nat.le_refl _)] at hz1; subst hz1; dsimp only at hR
      refine AWP.exit ?_; refine exitTo_here ?_
      refine AWP.seq ?_
      refine AWP.regS G_ok slices_DeleteFunc_Fault__impl_OpenFaults_1_DD hc (by kernel_rfl) (fun K hK => ?_); simp only [ea, gv, sv, D_slices_IndexFunc_Fault__impl_OpenFaults_1, D_impl_OpenFaults_1, reduceCtorEq, reduceIte, Nat.reduceBEq, Nat.reduceAdd, Nat.reduceEqDiff, Nat.reduceLT, Nat.reduceLeDiff, Nat.reduceMul, Nat.reduceSub, BEq.rfl, beq_self_eq_true, Int.reduceToNat]
      first | refine hK _ ?_ | refine ⟨by (first | trivial | omega | (simp only [ob, ln, bdv, sv] at *; omega) | ((try clear hK K); (repeat' first | apply And.intro | intro _) <;> first | trivial | omega | assumption | solve_by_elim | (apply bd_getD <;> first | assumption | decide) | (apply bd_subL <;> first | assumption | decide) | (simp only [ob, ln, bdv, sv] at *; first | omega | assumption | (simp_all; done) | grind [slices_IndexFunc_Fault__impl_OpenFaults_1_lt]))), hK _ ?_⟩
      clear hK K
      refine AWP.seq ?_
      refine AWP.regS G_ok slices_DeleteFunc_Fault__impl_OpenFaults_1_DD hc (by kernel_rfl) (fun K hK => ?_); simp only [ea, gv, sv, D_slices_IndexFunc_Fault__impl_OpenFaults_1, D_impl_OpenFaults_1, reduceCtorEq, reduceIte, Nat.reduceBEq, Nat.reduceAdd, Nat.reduceEqDiff, Nat.reduceLT, Nat.reduceLeDiff, Nat.reduceMul, Nat.reduceSub, BEq.rfl, beq_self_eq_true, Int.reduceToNat]
      first | refine hK _ ?_ | refine ⟨by (first | trivial | omega | (simp only [ob, ln, bdv, sv] at *; omega) | ((try clear hK K); (repeat' first | apply And.intro | intro _) <;> first | trivial | omega | assumption | solve_by_elim | (apply bd_getD <;> first | assumption | decide) | (apply bd_subL <;> first | assumption | decide) | (simp only [ob, ln, bdv, sv] at *; first | omega | assumption | (simp_all; done) | grind [slices_IndexFunc_Fault__impl_OpenFaults_1_lt]))), hK _ ?_⟩
      clear hK K
      refine AWP.ret ?_
      subst hR
      (simp only [en, si, ea, gv, sv, hk, reduceCtorEq, reduceIte, Nat.reduceBEq, Nat.reduceAdd, Nat.reduceEqDiff, Nat.reduceLT, Nat.reduceLeDiff, Nat.reduceMul, Nat.reduceSub, BEq.rfl, beq_self_eq_true, Int.reduceToNat]; first | done | trivial | (and_intros <;> first | rfl | trivial | omega | (rw [IntKind.wrap_i64]; omega) | (simp only [ln]; done) | (simp only [ob, ln, bdv, sv] at *; first | omega | grind [slices_IndexFunc_Fault__impl_OpenFaults_1_lt]) | (left; intro j hj; simp only [pw, Bool.cond_eq_ite, Bool.and_eq_true, decide_eq_true_eq]; (repeat' split) <;> simp [putL, NoBorL, NoBor]) | (intro j hj; simp only [pw, Bool.cond_eq_ite, Bool.and_eq_true, decide_eq_true_eq]; (try rw [subL_getD _ _ _ _ (by first | assumption | omega)]); (try rw [clearL_getD _ _ _ _ (by first | omega | (simp only [ob, ln, bdv] at *; omega))]); (repeat' split) <;> first | rfl | omega | exact simOL_refl _ | (simp_all; done) | (simp_all; rfl) | (simp_all; omega) | (simp_all; exact simOL_refl _) | (simp [putL, NoBorL, NoBor]; done))))

def D_slices_DeleteFunc_Fault__impl_OpenFaults_1 : List AV → Option (AV × List AV × List Prop)
  | [x0, (.fn f86_1 kf86_1 [])] => some (ownL 70 4 eFault (slices_DeleteFunc_Fault__impl_OpenFaults_1 (rdL dFault x0)), [.any, .any], [wO 70 4 eFault dFault x0, f86_1 = 86, kf86_1 = 0, (rdL dFault x0).length < 1099511627776])
  | _ => none
theorem D_slices_DeleteFunc_Fault__impl_OpenFaults_1_ok : OkM Try.prog 85 D_slices_DeleteFunc_Fault__impl_OpenFaults_1 := by
  intro xs r outs ob h ho
  unfold D_slices_DeleteFunc_Fault__impl_OpenFaults_1 at h
  split at h
  · simp only [Option.some.injEq, Prod.mk.injEq] at h
    obtain ⟨rfl, rfl, rfl⟩ := h
    obtain ⟨h0, qf86_1, qkf86_1, hb0, _⟩ := ho
    exact DenM.sim (slices_DeleteFunc_Fault__impl_OpenFaults_1_den _ hb0) (simOL_cons (wO_sim h0) <| simOL_cons (by subst qf86_1 qkf86_1; exact simO_refl _) <| trivial)
  · cases h
end Go.Ab

namespace Go.Ab
open Go Go.Proofs
theorem impl_clone_Fault_id (a : List Fault) : impl_clone_Fault a = a := by simp [impl_clone_Fault]
end Go.Ab

namespace Go.Ab
open Go Go.Proofs
theorem slices_DeleteFunc_Fault__impl_OpenFaults_1_eq (a0 : List Fault) (hl : a0.length < 1099511627776) : slices_DeleteFunc_Fault__impl_OpenFaults_1 a0 = a0.filter (fun x => !(impl_OpenFaults_1 x)) := by
  unfold slices_DeleteFunc_Fault__impl_OpenFaults_1
  rcases slices_IndexFunc_Fault__impl_OpenFaults_1_first a0 with ⟨i0, h1, h2, h3, h4⟩ | ⟨h1, h4⟩
  · have hne : ((slices_IndexFunc_Fault__impl_OpenFaults_1 a0) == -1) = false := by rw [h4, beq_eq_false_iff_ne]; omega
    rw [hne, cond_false, h4]
    have hk : (IntKind.wrap .i64 ((i0 : Int) + 1)).toNat = i0 + 1 := by rw [IntKind.wrap_i64]; omega
    rw [hk]
    obtain ⟨s, g1, g2, g3, g4, g5⟩ := delete_loop (fun x => impl_OpenFaults_1 x) a0 i0 (b := slices_DeleteFunc_Fault__impl_OpenFaults_1_b1 a0) (fun j s => rfl) h1 h2 h3 hl
    rw [g1]
    simp only
    rw [subL_clear _ _ _ (by omega), g5]
  · have hne : ((slices_IndexFunc_Fault__impl_OpenFaults_1 a0) == -1) = true := by rw [h4]; rfl
    rw [hne, cond_true]
    symm
    rw [List.filter_eq_self]
    intro x hx
    obtain ⟨i, hi, rfl⟩ := List.getElem_of_mem hx
    have := h1 i hi
    rw [List.getD_eq_getElem?_getD, List.getElem?_eq_getElem hi] at this
    simpa using this
theorem slices_DeleteFunc_Fault__impl_OpenFaults_1_len (a0 : List Fault) (hl : a0.length < 1099511627776) : (slices_DeleteFunc_Fault__impl_OpenFaults_1 a0).length ≤ a0.length := by
  rw [slices_DeleteFunc_Fault__impl_OpenFaults_1_eq a0 hl]; exact List.length_filter_le _ _
end Go.Ab

namespace Go.Ab
open Go Go.Proofs
theorem impl_OpenFaults_DD : DOk Try.prog (DD [(17, dP D_impl_ValidFaults), (83, dP D_impl_clone_Fault), (85, dM [true, false] D_slices_DeleteFunc_Fault__impl_OpenFaults_1)]) := DD_cons D_impl_ValidFaults_ok.e <| DD_cons D_impl_clone_Fault_ok.e <| DD_cons D_slices_DeleteFunc_Fault__impl_OpenFaults_1_ok.e <| DD_nil _
def impl_OpenFaults (a0 : (List Fault)) : ((List Fault) × Int) :=
  (bif (!(impl_ValidFaults a0)) then ([], 1) else (((slices_DeleteFunc_Fault__impl_OpenFaults_1 (impl_clone_Fault a0))), 0))

theorem impl_OpenFaults_den (a0 : (List Fault)) (hb0 : a0.length < 1099511627776) : Den Try.prog 43 [encL 4 eFault a0] (.tup [ownL 70 4 eFault ((impl_OpenFaults a0).1), .int .i64 ((impl_OpenFaults a0).2)]) := by
  generalize hR : impl_OpenFaults a0 = r
  unfold impl_OpenFaults at hR
  refine den_intro G_ok Try.func43 (by kernel_rfl) rfl Try.ntmps43 (by rw [Try.results43]) (by simp) rfl ?_
  intro c hc hk
  simp only [pars, Nat.zero_add]
  refine AWP.seq ?_
  refine AWP.regS G_ok impl_OpenFaults_DD hc (by kernel_rfl) (fun K hK => ?_); simp only [ea, absV, absVL, gv, sv, D_impl_ValidFaults, D_impl_clone_Fault, D_slices_DeleteFunc_Fault__impl_OpenFaults_1, reduceCtorEq, reduceIte, Nat.reduceBEq, Nat.reduceAdd, Nat.reduceEqDiff, Nat.reduceLT, Nat.reduceLeDiff, Nat.reduceMul, Nat.reduceSub, BEq.rfl, beq_self_eq_true, Int.reduceToNat]
  first | refine hK _ ?_ | refine ⟨by (first | trivial | omega | (simp only [ob, ln, bdv, impl_clone_Fault_id, sv] at *; omega) | ((try clear hK K); (repeat' first | apply And.intro | intro _) <;> first | trivial | omega | assumption | solve_by_elim | (apply bd_getD <;> first | assumption | decide) | (apply bd_subL <;> first | assumption | decide) | (simp only [ob, ln, bdv, impl_clone_Fault_id, sv] at *; first | omega | assumption | (simp_all; done) | grind [slices_DeleteFunc_Fault__impl_OpenFaults_1_len]))), hK _ ?_⟩
  clear hK K
  refine AWP.seq ?_
  refine AWP.seq ?_
  refine AWP.regS G_ok impl_OpenFaults_DD hc (by kernel_rfl) (fun K hK => ?_); simp only [ea, absV, absVL, gv, sv, D_impl_ValidFaults, D_impl_clone_Fault, D_slices_DeleteFunc_Fault__impl_OpenFaults_1, reduceCtorEq, reduceIte, Nat.reduceBEq, Nat.reduceAdd, Nat.reduceEqDiff, Nat.reduceLT, Nat.reduceLeDiff, Nat.reduceMul, Nat.reduceSub, BEq.rfl, beq_self_eq_true, Int.reduceToNat]
  first | refine hK _ ?_ | refine ⟨by (first | trivial | omega | (simp only [ob, ln, bdv, impl_clone_Fault_id, sv] at *; omega) | ((try clear hK K); (repeat' first | apply And.intro | intro _) <;> first | trivial | omega | assumption | solve_by_elim | (apply bd_getD <;> first | assumption | decide) | (apply bd_subL <;> first | assumption | decide) | (simp only [ob, ln, bdv, impl_clone_Fault_id, sv] at *; first | omega | assumption | (simp_all; done) | grind [slices_DeleteFunc_Fault__impl_OpenFaults_1_len]))), hK _ ?_⟩
  clear hK K
  refine AWP.cond rfl (fun hb => ?_) (fun hb => ?_)
  · first | simp only [hb, cond_true] at hR | (simp only [*] at hb; simp only [hb, cond_true] at hR)
    refine AWP.seq ?_
    refine AWP.regS G_ok impl_OpenFaults_DD hc (by kernel_rfl) (fun K hK => ?_); simp only [ea, absV, absVL, gv, sv, D_impl_ValidFaults, D_impl_clone_Fault, D_slices_DeleteFunc_Fault__impl_OpenFaults_1, reduceCtorEq, reduceIte, Nat.reduceBEq, Nat.reduceAdd, Nat.reduceEqDiff, Nat.reduceLT, Nat.reduceLeDiff, Nat.reduceMul, Nat.reduceSub, BEq.rfl, beq_self_eq_true, Int.reduceToNat]
    first | refine hK _ ?_ | refine ⟨by (first | trivial | omega | (simp only [ob, ln, bdv, impl_clone_Fault_id, sv] at *; omega) | ((try clear hK K); (repeat' first | apply And.intro | intro _) <;> first | trivial | omega | assumption | solve_by_elim | (apply bd_getD <;> first | assumption | decide) | (apply bd_subL <;> first | assumption | decide) | (simp only [ob, ln, bdv, impl_clone_Fault_id, sv] at *; first | omega | assumption | (simp_all; done) | grind [slices_DeleteFunc_Fault__impl_OpenFaults_1_len]))), hK _ ?_⟩
    clear hK K
    refine AWP.ret ?_
    subst hR
    (simp only [en, si, ea, gv, sv, hk, reduceCtorEq, reduceIte, Nat.reduceBEq, Nat.reduceAdd, Nat.reduceEqDiff, Nat.reduceLT, Nat.reduceLeDiff, Nat.reduceMul, Nat.reduceSub, BEq.rfl, beq_self_eq_true, Int.reduceToNat]; first | done | trivial | (and_intros <;> first | rfl | trivial | omega | (rw [IntKind.wrap_i64]; omega) | (simp only [ln]; done) | (simp only [ob, ln, bdv, impl_clone_Fault_id, sv] at *; first | omega | grind [slices_DeleteFunc_Fault__impl_OpenFaults_1_len]) | (left; intro j hj; simp only [pw, Bool.cond_eq_ite, Bool.and_eq_true, decide_eq_true_eq]; (repeat' split) <;> simp [putL, NoBorL, NoBor]) | (intro j hj; simp only [pw, Bool.cond_eq_ite, Bool.and_eq_true, decide_eq_true_eq]; (try rw [subL_getD _ _ _ _ (by first | assumption | omega)]); (try rw [clearL_getD _ _ _ _ (by first | omega | (simp only [ob, ln, bdv] at *; omega))]); (repeat' split) <;> first | rfl | omega | exact simOL_refl _ | (simp_all; done) | (simp_all; rfl) | (simp_all; omega) | (simp_all; exact simOL_refl _) | (simp [putL, NoBorL, NoBor]; done))))
  · first | simp only [hb, cond_false] at hR | (simp only [*] at hb; simp only [hb, cond_false] at hR)
    refine AWP.skip ?_
    refine AWP.seq ?_
    refine AWP.regS G_ok impl_OpenFaults_DD hc (by kernel_rfl) (fun K hK => ?_); simp only [ea, absV, absVL, gv, sv, D_impl_ValidFaults, D_impl_clone_Fault, D_slices_DeleteFunc_Fault__impl_OpenFaults_1, reduceCtorEq, reduceIte, Nat.reduceBEq, Nat.reduceAdd, Nat.reduceEqDiff, Nat.reduceLT, Nat.reduceLeDiff, Nat.reduceMul, Nat.reduceSub, BEq.rfl, beq_self_eq_true, Int.reduceToNat]
    first | refine hK _ ?_ | refine ⟨by (first | trivial | omega | (simp only [ob, ln, bdv, impl_clone_Fault_id, sv] at *; omega) | ((try clear hK K); (repeat' first | apply And.intro | intro _) <;> first | trivial | omega | assumption | solve_by_elim | (apply bd_getD <;> first | assumption | decide) | (apply bd_subL <;> first | assumption | decide) | (simp only [ob, ln, bdv, impl_clone_Fault_id, sv] at *; first | omega | assumption | (simp_all; done) | grind [slices_DeleteFunc_Fault__impl_OpenFaults_1_len]))), hK _ ?_⟩
    clear hK K
    refine AWP.ret ?_
    subst hR
    (simp only [en, si, ea, gv, sv, hk, reduceCtorEq, reduceIte, Nat.reduceBEq, Nat.reduceAdd, Nat.reduceEqDiff, Nat.reduceLT, Nat.reduceLeDiff, Nat.reduceMul, Nat.reduceSub, BEq.rfl, beq_self_eq_true, Int.reduceToNat]; first | done | trivial | (and_intros <;> first | rfl | trivial | omega | (rw [IntKind.wrap_i64]; omega) | (simp only [ln]; done) | (simp only [ob, ln, bdv, impl_clone_Fault_id, sv] at *; first | omega | grind [slices_DeleteFunc_Fault__impl_OpenFaults_1_len]) | (left; intro j hj; simp only [pw, Bool.cond_eq_ite, Bool.and_eq_true, decide_eq_true_eq]; (repeat' split) <;> simp [putL, NoBorL, NoBor]) | (intro j hj; simp only [pw, Bool.cond_eq_ite, Bool.and_eq_true, decide_eq_true_eq]; (try rw [subL_getD _ _ _ _ (by first | assumption | omega)]); (try rw [clearL_getD _ _ _ _ (by first | omega | (simp only [ob, ln, bdv] at *; omega))]); (repeat' split) <;> first | rfl | omega | exact simOL_refl _ | (simp_all; done) | (simp_all; rfl) | (simp_all; omega) | (simp_all; exact simOL_refl _) | (simp [putL, NoBorL, NoBor]; done))))

def D_impl_OpenFaults : DF
  | [x0] => some (.tup [ownL 70 4 eFault ((impl_OpenFaults (rdL dFault x0)).1), .int .i64 ((impl_OpenFaults (rdL dFault x0)).2)], false, [wL 4 eFault dFault x0, (rdL dFault x0).length < 1099511627776])
  | _ => none
def Dz_impl_OpenFaults : DF
  | [x0] => some (.tup [ownL 70 4 eFault ((impl_OpenFaults (rdL dFault x0)).1), .int .i64 ((impl_OpenFaults (rdL dFault x0)).2)], true, [wL 4 eFault dFault x0, (rdL dFault x0).length < 1099511627776])
  | _ => none
theorem D_impl_OpenFaults_ok : OkD Try.prog 43 D_impl_OpenFaults := by
  intro xs r z ob h ho
  unfold D_impl_OpenFaults at h
  split at h
  · simp only [Option.some.injEq, Prod.mk.injEq] at h
    obtain ⟨rfl, rfl, rfl⟩ := h
    obtain ⟨h0, hb0, _⟩ := ho
    exact Den.sim (impl_OpenFaults_den _ hb0) (simOL_cons (wL_sim h0).1 <| trivial) (noIdL_cons (wL_sim h0).2 <| rfl) rfl
  · cases h

theorem Dz_impl_OpenFaults_ok : OkD Try.prog 43 Dz_impl_OpenFaults := by
  intro xs r z ob h ho
  unfold Dz_impl_OpenFaults at h
  split at h
  · simp only [Option.some.injEq, Prod.mk.injEq] at h
    obtain ⟨rfl, rfl, rfl⟩ := h
    obtain ⟨h0, hb0, _⟩ := ho
    exact Den.sim (impl_OpenFaults_den _ hb0) (simOL_cons (wL_sim h0).1 <| trivial) (noIdL_cons (wL_sim h0).2 <| rfl) rfl
  · cases h
end Go.Ab

namespace Go.Ab
open Go Go.Proofs
theorem impl_OpenFaults_len (a : List Fault) (hl : a.length < 1099511627776) : (impl_OpenFaults a).1.length ≤ a.length := by
  unfold impl_OpenFaults
  rw [impl_clone_Fault_id]
  cases impl_ValidFaults a with
  | false => simp
  | true => exact slices_DeleteFunc_Fault__impl_OpenFaults_1_len a hl
end Go.Ab

namespace Go.Ab
open Go Go.Proofs
theorem spec_OpenFaults_DD : DOk Try.prog (DD [(52, dP D_spec_l20Ok)]) := DD_cons D_spec_l20Ok_ok.e <| DD_nil _
def spec_OpenFaults_b1 (a0 : (List Fault)) (i1 : Nat) (s1 : List Fault) : Except (((List Fault) × Int)) (List Fault) :=
  (bif (((a0.getD i1 default).Until) == (-1)) then .ok (s1 ++ [(a0.getD i1 default)]) else .ok s1)

def spec_OpenFaults (a0 : (List Fault)) : ((List Fault) × Int) :=
  (bif (!(spec_l20Ok a0)) then ([], 1) else (match loopR (spec_OpenFaults_b1 a0) (a0.length - 0) 0 ([] : List Fault) with | .error e => e | .ok s1 => (s1, 0)))

theorem spec_OpenFaults_den (a0 : (List Fault)) (hb0 : a0.length < 1099511627776) : Den Try.prog 42 [encL 4 eFault a0] (.tup [ownL 70 4 eFault ((spec_OpenFaults a0).1), .int .i64 ((spec_OpenFaults a0).2)]) := by
  generalize hR : spec_OpenFaults a0 = r
  unfold spec_OpenFaults at hR
  refine den_intro G_ok Try.func42 (by kernel_rfl) rfl Try.ntmps42 (by rw [Try.results42]) (by simp) rfl ?_
  intro c hc hk
  simp only [pars, Nat.zero_add]
  refine AWP.seq ?_
  refine AWP.regS G_ok spec_OpenFaults_DD hc (by kernel_rfl) (fun K hK => ?_); simp only [ea, gv, sv, D_spec_l20Ok, reduceCtorEq, reduceIte, Nat.reduceBEq, Nat.reduceAdd, Nat.reduceEqDiff, Nat.reduceLT, Nat.reduceLeDiff, Nat.reduceMul, Nat.reduceSub, BEq.rfl, beq_self_eq_true, Int.reduceToNat]
  first | refine hK _ ?_ | refine ⟨by (first | trivial | omega | (simp only [ob, ln, bdv, sv] at *; omega) | ((try clear hK K); (repeat' first | apply And.intro | intro _) <;> first | trivial | omega | assumption | solve_by_elim | (apply bd_getD <;> first | assumption | decide) | (apply bd_subL <;> first | assumption | decide) | (simp only [ob, ln, bdv, sv] at *; first | omega | assumption | (simp_all; done) | grind))), hK _ ?_⟩
  clear hK K
  refine AWP.seq ?_
  refine AWP.seq ?_
  refine AWP.regS G_ok spec_OpenFaults_DD hc (by kernel_rfl) (fun K hK => ?_); simp only [ea, gv, sv, D_spec_l20Ok, reduceCtorEq, reduceIte, Nat.reduceBEq, Nat.reduceAdd, Nat.reduceEqDiff, Nat.reduceLT, Nat.reduceLeDiff, Nat.reduceMul, Nat.reduceSub, BEq.rfl, beq_self_eq_true, Int.reduceToNat]
  first | refine hK _ ?_ | refine ⟨by (first | trivial | omega | (simp only [ob, ln, bdv, sv] at *; omega) | ((try clear hK K); (repeat' first | apply And.intro | intro _) <;> first | trivial | omega | assumption | solve_by_elim | (apply bd_getD <;> first | assumption | decide) | (apply bd_subL <;> first | assumption | decide) | (simp only [ob, ln, bdv, sv] at *; first | omega | assumption | (simp_all; done) | grind))), hK _ ?_⟩
  clear hK K
  refine AWP.cond rfl (fun hb => ?_) (fun hb => ?_)
  · first | simp only [hb, cond_true] at hR | (simp only [*] at hb; simp only [hb, cond_true] at hR)
    refine AWP.seq ?_
    refine AWP.regS G_ok spec_OpenFaults_DD hc (by kernel_rfl) (fun K hK => ?_); simp only [ea, gv, sv, D_spec_l20Ok, reduceCtorEq, reduceIte, Nat.reduceBEq, Nat.reduceAdd, Nat.reduceEqDiff, Nat.reduceLT, Nat.reduceLeDiff, Nat.reduceMul, Nat.reduceSub, BEq.rfl, beq_self_eq_true, Int.reduceToNat]
    first | refine hK _ ?_ | refine ⟨by (first | trivial | omega | (simp only [ob, ln, bdv, sv] at *; omega) | ((try clear hK K); (repeat' first | apply And.intro | intro _) <;> first | trivial | omega | assumption | solve_by_elim | (apply bd_getD <;> first | assumption | decide) | (apply bd_subL <;> first | assumption | decide) | (simp only [ob, ln, bdv, sv] at *; first | omega | assumption | (simp_all; done) | grind))), hK _ ?_⟩
    clear hK K
    refine AWP.ret ?_
    subst hR
    (simp only [en, si, ea, gv, sv, hk, reduceCtorEq, reduceIte, Nat.reduceBEq, Nat.reduceAdd, Nat.reduceEqDiff, Nat.reduceLT, Nat.reduceLeDiff, Nat.reduceMul, Nat.reduceSub, BEq.rfl, beq_self_eq_true, Int.reduceToNat]; first | done | trivial | (and_intros <;> first | rfl | trivial | omega | (rw [IntKind.wrap_i64]; omega) | (simp only [ln]; done) | (simp only [ob, ln, bdv, sv] at *; first | omega | grind) | (left; intro j hj; simp only [pw, Bool.cond_eq_ite, Bool.and_eq_true, decide_eq_true_eq]; (repeat' split) <;> simp [putL, NoBorL, NoBor]) | (intro j hj; simp only [pw, Bool.cond_eq_ite, Bool.and_eq_true, decide_eq_true_eq]; (try rw [subL_getD _ _ _ _ (by first | assumption | omega)]); (try rw [clearL_getD _ _ _ _ (by first | omega | (simp only [ob, ln, bdv] at *; omega))]); (repeat' split) <;> first | rfl | omega | exact simOL_refl _ | (simp_all; done) | (simp_all; rfl) | (simp_all; omega) | (simp_all; exact simOL_refl _) | (simp [putL, NoBorL, NoBor]; done))))
  · first | simp only [hb, cond_false] at hR | (simp only [*] at hb; simp only [hb, cond_false] at hR)
    refine AWP.skip ?_
    refine AWP.seq ?_
    refine AWP.regS G_ok spec_OpenFaults_DD hc (by kernel_rfl) (fun K hK => ?_); simp only [ea, gv, sv, D_spec_l20Ok, reduceCtorEq, reduceIte, Nat.reduceBEq, Nat.reduceAdd, Nat.reduceEqDiff, Nat.reduceLT, Nat.reduceLeDiff, Nat.reduceMul, Nat.reduceSub, BEq.rfl, beq_self_eq_true, Int.reduceToNat]
    first | refine hK _ ?_ | refine ⟨by (first | trivial | omega | (simp only [ob, ln, bdv, sv] at *; omega) | ((try clear hK K); (repeat' first | apply And.intro | intro _) <;> first | trivial | omega | assumption | solve_by_elim | (apply bd_getD <;> first | assumption | decide) | (apply bd_subL <;> first | assumption | decide) | (simp only [ob, ln, bdv, sv] at *; first | omega | assumption | (simp_all; done) | grind))), hK _ ?_⟩
    clear hK K
    refine AWP.seq ?_
    refine AWP.seq ?_
    refine AWP.regS G_ok spec_OpenFaults_DD hc (by kernel_rfl) (fun K hK => ?_); simp only [ea, gv, sv, D_spec_l20Ok, reduceCtorEq, reduceIte, Nat.reduceBEq, Nat.reduceAdd, Nat.reduceEqDiff, Nat.reduceLT, Nat.reduceLeDiff, Nat.reduceMul, Nat.reduceSub, BEq.rfl, beq_self_eq_true, Int.reduceToNat]
    first | refine hK _ ?_ | refine ⟨by (first | trivial | omega | (simp only [ob, ln, bdv, sv] at *; omega) | ((try clear hK K); (repeat' first | apply And.intro | intro _) <;> first | trivial | omega | assumption | solve_by_elim | (apply bd_getD <;> first | assumption | decide) | (apply bd_subL <;> first | assumption | decide) | (simp only [ob, ln, bdv, sv] at *; first | omega | assumption | (simp_all; done) | grind))), hK _ ?_⟩
    clear hK K
    refine AWP.block ?_
    generalize hz1 : loopR (spec_OpenFaults_b1 a0) (a0.length - 0) 0 ([] : List Fault) = z1 at hR
    refine AWP.range (spec_OpenFaults_b1 a0) (fun i1 s1 => ⟨[(0, encL 4 eFault a0), (4, .ref 0 4 0 s1.length), (5, .int .i64 (i1 : Int))], [.arr 70 4 s1.length (fun j => eFault (s1.getD j default))]⟩) (fun i1 s1 => s1.length ≤ ([] : List Fault).length + 1 * i1) (a0.length) 0 ([] : List Fault) [0] hz1 (by (first | trivial | omega | (simp only [ob, ln, bdv, sv] at *; omega) | ((try clear hK K); (repeat' first | apply And.intro | intro _) <;> first | trivial | omega | assumption | solve_by_elim | (apply bd_getD <;> first | assumption | decide) | (apply bd_subL <;> first | assumption | decide) | (simp only [ob, ln, bdv, sv] at *; first | omega | assumption | (simp_all; done) | grind)))) (by (first | trivial | (and_intros <;> simp only [ln] <;> omega) | (and_intros <;> simp only [ob, ln] at * <;> omega) | (and_intros <;> first | trivial | omega | assumption | (apply bd_set <;> first | assumption | (apply bd_getD <;> first | assumption | decide)) | (apply bd_app <;> first | assumption | (apply bd_getD <;> first | assumption | decide)) | (simp only [ob, ln, bdv, sv] at *; omega) | (simp; done)))) (by (simp only [si, ea, gv, sv, hk, reduceCtorEq, reduceIte, Nat.reduceBEq, Nat.reduceAdd, Nat.reduceEqDiff, Nat.reduceLT, Nat.reduceLeDiff, Nat.reduceMul, Nat.reduceSub, BEq.rfl, beq_self_eq_true, Int.reduceToNat]; first | done | trivial | (and_intros <;> first | rfl | trivial | omega | (rw [IntKind.wrap_i64]; omega) | (simp only [ln]; done) | (simp only [ob, ln, bdv, sv] at *; first | omega | grind) | (left; intro j hj; simp only [pw, Bool.cond_eq_ite, Bool.and_eq_true, decide_eq_true_eq]; (repeat' split) <;> simp [putL, NoBorL, NoBor]) | (intro j hj; simp only [pw, Bool.cond_eq_ite, Bool.and_eq_true, decide_eq_true_eq]; (try rw [subL_getD _ _ _ _ (by first | assumption | omega)]); (try rw [clearL_getD _ _ _ _ (by first | omega | (simp only [ob, ln, bdv] at *; omega))]); (repeat' split) <;> first | rfl | omega | exact simOL_refl _ | (simp_all; done) | (simp_all; rfl) | (simp_all; omega) | (simp_all; exact simOL_refl _) | (simp [putL, NoBorL, NoBor]; done))))) ?_
    clear hz1
    intro i1 s1 hi1 hW1 hz1
    refine AWP.seq ?_
    refine AWP.seq ?_
    refine AWP.regS G_ok spec_OpenFaults_DD hc (by kernel_rfl) (fun K hK => ?_); simp only [ea, gv, sv, D_spec_l20Ok, reduceCtorEq, reduceIte, Nat.reduceBEq, Nat.reduceAdd, Nat.reduceEqDiff, Nat.reduceLT, Nat.reduceLeDiff, Nat.reduceMul, Nat.reduceSub, BEq.rfl, beq_self_eq_true, Int.reduceToNat]
    first | refine hK _ ?_ | refine ⟨by (first | trivial | omega | (simp only [ob, ln, bdv, sv] at *; omega) | ((try clear hK K); (repeat' first | apply And.intro | intro _) <;> first | trivial | omega | assumption | solve_by_elim | (apply bd_getD <;> first | assumption | decide) | (apply bd_subL <;> first | assumption | decide) | (simp only [ob, ln, bdv, sv] at *; first | omega | assumption | (simp_all; done) | grind))), hK _ ?_⟩
    clear hK K
    refine AWP.cond rfl (fun hb => ?_) (fun hb => ?_)
    · have hlt1 : i1 < a0.length := by (first | trivial | omega | (simp only [ob, ln, bdv, sv] at *; omega) | ((try clear hK K); (repeat' first | apply And.intro | intro _) <;> first | trivial | omega | assumption | solve_by_elim | (apply bd_getD <;> first | assumption | decide) | (apply bd_subL <;> first | assumption | decide) | (simp only [ob, ln, bdv, sv] at *; first | omega | assumption | (simp_all; done) | grind)))
      rw [loopR_lt hlt1] at hz1; simp only [spec_OpenFaults_b1] at hz1
      refine AWP.skip ?_
      refine AWP.seq ?_
      refine AWP.block ?_
      refine AWP.seq ?_
      refine AWP.regS G_ok spec_OpenFaults_DD hc (by kernel_rfl) (fun K hK => ?_); simp only [ea, gv, sv, D_spec_l20Ok, reduceCtorEq, reduceIte, Nat.reduceBEq, Nat.reduceAdd, Nat.reduceEqDiff, Nat.reduceLT, Nat.reduceLeDiff, Nat.reduceMul, Nat.reduceSub, BEq.rfl, beq_self_eq_true, Int.reduceToNat]
      first | refine hK _ ?_ | refine ⟨by (first | trivial | omega | (simp only [ob, ln, bdv, sv] at *; omega) | ((try clear hK K); (repeat' first | apply And.intro | intro _) <;> first | trivial | omega | assumption | solve_by_elim | (apply bd_getD <;> first | assumption | decide) | (apply bd_subL <;> first | assumption | decide) | (simp only [ob, ln, bdv, sv] at *; first | omega | assumption | (simp_all; done) | grind))), hK _ ?_⟩
      clear hK K
      refine AWP.cond rfl (fun hb => ?_) (fun hb => ?_)
      · first | simp only [hb, cond_true] at hz1 | (simp only [*] at hb; simp only [hb, cond_true] at hz1)
        refine AWP.regS G_ok spec_OpenFaults_DD hc (by kernel_rfl) (fun K hK => ?_); simp only [ea, gv, sv, D_spec_l20Ok, reduceCtorEq, reduceIte, Nat.reduceBEq, Nat.reduceAdd, Nat.reduceEqDiff, Nat.reduceLT, Nat.reduceLeDiff, Nat.reduceMul, Nat.reduceSub, BEq.rfl, beq_self_eq_true, Int.reduceToNat]
        first | refine hK _ ?_ | refine ⟨by (first | trivial | omega | (simp only [ob, ln, bdv, sv] at *; omega) | ((try clear hK K); (repeat' first | apply And.intro | intro _) <;> first | trivial | omega | assumption | solve_by_elim | (apply bd_getD <;> first | assumption | decide) | (apply bd_subL <;> first | assumption | decide) | (simp only [ob, ln, bdv, sv] at *; first | omega | assumption | (simp_all; done) | grind))), hK _ ?_⟩
        clear hK K
        refine AWP.regS G_ok spec_OpenFaults_DD hc (by kernel_rfl) (fun K hK => ?_); simp only [ea, gv, sv, D_spec_l20Ok, reduceCtorEq, reduceIte, Nat.reduceBEq, Nat.reduceAdd, Nat.reduceEqDiff, Nat.reduceLT, Nat.reduceLeDiff, Nat.reduceMul, Nat.reduceSub, BEq.rfl, beq_self_eq_true, Int.reduceToNat]
        first | refine hK _ ?_ | refine ⟨by (first | trivial | omega | (simp only [ob, ln, bdv, sv] at *; omega) | ((try clear hK K); (repeat' first | apply And.intro | intro _) <;> first | trivial | omega | assumption | solve_by_elim | (apply bd_getD <;> first | assumption | decide) | (apply bd_subL <;> first | assumption | decide) | (simp only [ob, ln, bdv, sv] at *; first | omega | assumption | (simp_all; done) | grind))), hK _ ?_⟩
        clear hK K
        exact ⟨_, [2], hlt1, by (first | trivial | (and_intros <;> simp only [ln] <;> omega) | (and_intros <;> simp only [ob, ln] at * <;> omega) | (and_intros <;> first | trivial | omega | assumption | (apply bd_set <;> first | assumption | (apply bd_getD <;> first | assumption | decide)) | (apply bd_app <;> first | assumption | (apply bd_getD <;> first | assumption | decide)) | (simp only [ob, ln, bdv, sv] at *; omega) | (simp; done))), hz1, by (simp only [si, ea, gv, sv, hk, reduceCtorEq, reduceIte, Nat.reduceBEq, Nat.reduceAdd, Nat.reduceEqDiff, Nat.reduceLT, Nat.reduceLeDiff, Nat.reduceMul, Nat.reduceSub, BEq.rfl, beq_self_eq_true, Int.reduceToNat]; first | done | trivial | (and_intros <;> first | rfl | trivial | omega | (rw [IntKind.wrap_i64]; omega) | (simp only [ln]; done) | (simp only [ob, ln, bdv, sv] at *; first | omega | grind) | (left; intro j hj; simp only [pw, Bool.cond_eq_ite, Bool.and_eq_true, decide_eq_true_eq]; (repeat' split) <;> simp [putL, NoBorL, NoBor]) | (intro j hj; simp only [pw, Bool.cond_eq_ite, Bool.and_eq_true, decide_eq_true_eq]; (try rw [subL_getD _ _ _ _ (by first | assumption | omega)]); (try rw [clearL_getD _ _ _ _ (by first | omega | (simp only [ob, ln, bdv] at *; omega))]); (repeat' split) <;> first | rfl | omega | exact simOL_refl _ | (simp_all; done) | (simp_all; rfl) | (simp_all; omega) | (simp_all; exact simOL_refl _) | (simp [putL, NoBorL, NoBor]; done))))⟩
      · first | simp only [hb, cond_false] at hz1 | (simp only [*] at hb; simp only [hb, cond_false] at hz1)
        refine AWP.skip ?_
        refine AWP.regS G_ok spec_OpenFaults_DD hc (by kernel_rfl) (fun K hK => ?_); simp only [ea, gv, sv, D_spec_l20Ok, reduceCtorEq, reduceIte, Nat.reduceBEq, Nat.reduceAdd, Nat.reduceEqDiff, Nat.reduceLT, Nat.reduceLeDiff, Nat.reduceMul, Nat.reduceSub, BEq.rfl, beq_self_eq_true, Int.reduceToNat]
        first | refine hK _ ?_ | refine ⟨by (first | trivial | omega | (simp only [ob, ln, bdv, sv] at *; omega) | ((try clear hK K); (repeat' first | apply And.intro | intro _) <;> first | trivial | omega | assumption | solve_by_elim | (apply bd_getD <;> first | assumption | decide) | (apply bd_subL <;> first | assumption | decide) | (simp only [ob, ln, bdv, sv] at *; first | omega | assumption | (simp_all; done) | grind))), hK _ ?_⟩
        clear hK K
        exact ⟨_, [0], hlt1, by (first | trivial | (and_intros <;> simp only [ln] <;> omega) | (and_intros <;> simp only [ob, ln] at * <;> omega) | (and_intros <;> first | trivial | omega | assumption | (apply bd_set <;> first | assumption | (apply bd_getD <;> first | assumption | decide)) | (apply bd_app <;> first | assumption | (apply bd_getD <;> first | assumption | decide)) | (simp only [ob, ln, bdv, sv] at *; omega) | (simp; done))), hz1, by (simp only [si, ea, gv, sv, hk, reduceCtorEq, reduceIte, Nat.reduceBEq, Nat.reduceAdd, Nat.reduceEqDiff, Nat.reduceLT, Nat.reduceLeDiff, Nat.reduceMul, Nat.reduceSub, BEq.rfl, beq_self_eq_true, Int.reduceToNat]; first | done | trivial | (and_intros <;> first | rfl | trivial | omega | (rw [IntKind.wrap_i64]; omega) | (simp only [ln]; done) | (simp only [ob, ln, bdv, sv] at *; first | omega | grind) | (left; intro j hj; simp only [pw, Bool.cond_eq_ite, Bool.and_eq_true, decide_eq_true_eq]; (repeat' split) <;> simp [putL, NoBorL, NoBor]) | (intro j hj; simp only [pw, Bool.cond_eq_ite, Bool.and_eq_true, decide_eq_true_eq]; (try rw [subL_getD _ _ _ _ (by first | assumption | omega)]); (try rw [clearL_getD _ _ _ _ (by first | omega | (simp only [ob, ln, bdv] at *; omega))]); (repeat' split) <;> first | rfl | omega | exact simOL_refl _ | (simp_all; done) | (simp_all; rfl) | (simp_all; omega) | (simp_all; exact simOL_refl _) | (simp [putL, NoBorL, NoBor]; done))))⟩
    · obtain rfl : i1 = a0.length := by (first | trivial | omega | (simp only [ob, ln, bdv, sv] at *; omega) | ((try clear hK K); (repeat' first | apply And.intro | intro _) <;> first | trivial | omega | assumption | solve_by_elim | (apply bd_getD <;> first | assumption | decide) | (apply bd_subL <;> first | assumption | decide) | (simp only [ob, ln, bdv, sv] at *; first | omega | assumption | (simp_all; done) | grind)))
      rw [loopR_ge (Nat.le_refl _)] at hz1; subst hz1; dsimp only at hR
      refine AWP.exit ?_; refine exitTo_here ?_
      refine AWP.seq ?_
      refine AWP.regS G_ok spec_OpenFaults_DD hc (by kernel_rfl) (fun K hK => ?_); simp only [ea, gv, sv, D_spec_l20Ok, reduceCtorEq, reduceIte, Nat.reduceBEq, Nat.reduceAdd, Nat.reduceEqDiff, Nat.reduceLT, Nat.reduceLeDiff, Nat.reduceMul, Nat.reduceSub, BEq.rfl, beq_self_eq_true, Int.reduceToNat]
      first | refine hK _ ?_ | refine ⟨by (first | trivial | omega | (simp only [ob, ln, bdv, sv] at *; omega) | ((try clear hK K); (repeat' first | apply And.intro | intro _) <;> first | trivial | omega | assumption | solve_by_elim | (apply bd_getD <;> first | assumption | decide) | (apply bd_subL <;> first | assumption | decide) | (simp only [ob, ln, bdv, sv] at *; first | omega | assumption | (simp_all; done) | grind))), hK _ ?_⟩
      clear hK K
      refine AWP.ret ?_
      subst hR
      (simp only [en, si, ea, gv, sv, hk, reduceCtorEq, reduceIte, Nat.reduceBEq, Nat.reduceAdd, Nat.reduceEqDiff, Nat.reduceLT, Nat.reduceLeDiff, Nat.reduceMul, Nat.reduceSub, BEq.rfl, beq_self_eq_true, Int.reduceToNat]; first | done | trivial | (and_intros <;> first | rfl | trivial | omega | (rw [IntKind.wrap_i64]; omega) | (simp only [ln]; done) | (simp only [ob, ln, bdv, sv] at *; first | omega | grind) | (left; intro j hj; simp only [pw, Bool.cond_eq_ite, Bool.and_eq_true, decide_eq_true_eq]; (repeat' split) <;> simp [putL, NoBorL, NoBor]) | (intro j hj; simp only [pw, Bool.cond_eq_ite, Bool.and_eq_true, decide_eq_true_eq]; (try rw [subL_getD _ _ _ _ (by first | assumption | omega)]); (try rw [clearL_getD _ _ _ _ (by first | omega | (simp only [ob, ln, bdv] at *; omega))]); (repeat' split) <;> first | rfl | omega | exact simOL_refl _ | (simp_all; done) | (simp_all; rfl) | (simp_all; omega) | (simp_all; exact simOL_refl _) | (simp [putL, NoBorL, NoBor]; done))))

def D_spec_OpenFaults : DF
  | [x0] => some (.tup [ownL 70 4 eFault ((spec_OpenFaults (rdL dFault x0)).1), .int .i64 ((spec_OpenFaults (rdL dFault x0)).2)], false, [wL 4 eFault dFault x0, (rdL dFault x0).length < 1099511627776])
  | _ => none
def Dz_spec_OpenFaults : DF
  | [x0] => some (.tup [ownL 70 4 eFault ((spec_OpenFaults (rdL dFault x0)).1), .int .i64 ((spec_OpenFaults (rdL dFault x0)).2)], true, [wL 4 eFault dFault x0, (rdL dFault x0).length < 1099511627776])
  | _ => none
theorem D_spec_OpenFaults_ok : OkD Try.prog 42 D_spec_OpenFaults := by
  intro xs r z ob h ho
  unfold D_spec_OpenFaults at h
  split at h
  · simp only [Option.some.injEq, Prod.mk.injEq] at h
    obtain ⟨rfl, rfl, rfl⟩ := h
    obtain ⟨h0, hb0, _⟩ := ho
    exact Den.sim (spec_OpenFaults_den _ hb0) (simOL_cons (wL_sim h0).1 <| trivial) (noIdL_cons (wL_sim h0).2 <| rfl) rfl
  · cases h

theorem Dz_spec_OpenFaults_ok : OkD Try.prog 42 Dz_spec_OpenFaults := by
  intro xs r z ob h ho
  unfold Dz_spec_OpenFaults at h
  split at h
  · simp only [Option.some.injEq, Prod.mk.injEq] at h
    obtain ⟨rfl, rfl, rfl⟩ := h
    obtain ⟨h0, hb0, _⟩ := ho
    exact Den.sim (spec_OpenFaults_den _ hb0) (simOL_cons (wL_sim h0).1 <| trivial) (noIdL_cons (wL_sim h0).2 <| rfl) rfl
  · cases h
end Go.Ab

namespace Go.Ab
open Go Go.Proofs
/-- a loop that gathers elements -/
theorem loopR_filter {ρ α : Type} [Inhabited α] (p : α → Bool) (a : List α) {b : Nat → List α → Except ρ (List α)}
    (hb : ∀ i s, b i s = bif p (a.getD i default) then .ok (s ++ [a.getD i default]) else .ok s) : loopR b (a.length - 0) 0 [] = .ok (a.filter p) := by
  obtain ⟨t, h1, h2⟩ := loopR_total (b := b) (fun i s => s = (a.take i).filter p) (k := a.length - 0) (i := 0) (s := []) (by simp) (by
    intro j u _ hj h
    rw [hb]
    refine ⟨(a.take (j + 1)).filter p, ?_, rfl⟩
    rw [take_succ_getD a j (by omega), List.filter_append, h]
    cases hp : p (a.getD j default) <;> simp [List.filter_cons, hp, -List.getD_eq_getElem?_getD])
  rw [h1, h2]
  congr 1
  rw [List.take_of_length_le (by omega)]
theorem spec_OpenFaults_eq (a : List Fault) : spec_OpenFaults a = bif !(spec_l20Ok a) then ([], 1) else (a.filter (fun f => f.Until == -1), 0) := by
  unfold spec_OpenFaults
  rw [loopR_filter (fun f : Fault => f.Until == -1) a (b := spec_OpenFaults_b1 a) (fun i s => rfl)]
theorem spec_OpenFaults_len (a : List Fault) : (spec_OpenFaults a).1.length ≤ a.length := by
  rw [spec_OpenFaults_eq]
  cases spec_l20Ok a with
  | false => simp
  | true => exact List.length_filter_le _ _
end Go.Ab

namespace Go.Ab
open Go Go.Proofs
theorem laws_markFaultS_DD : DOk Try.prog (DD []) := DD_nil _
def laws_markFaultS_b1 (a0 : (List Fault)) (a1 : Int) (i1 : Nat) (s1 : Int × List Fault) : Except (Int × (List Fault)) (Int × List Fault) :=
  .ok (IntKind.wrap .i64 ((IntKind.wrap .i64 ((IntKind.wrap .i64 ((IntKind.wrap .i64 (s1.1 + 1)) + 1)) + 1)) + 1), s1.2.set i1 ({ Aid := s1.1, Kind := IntKind.wrap .i64 (s1.1 + 1), From := IntKind.wrap .i64 ((IntKind.wrap .i64 (s1.1 + 1)) + 1), Until := IntKind.wrap .i64 ((IntKind.wrap .i64 ((IntKind.wrap .i64 (s1.1 + 1)) + 1)) + 1) : Fault }))

def laws_markFaultS (a0 : (List Fault)) (a1 : Int) : Int × (List Fault) :=
  (match loopR (laws_markFaultS_b1 a0 a1) (a0.length - 0) 0 (a1, a0) with | .error e => e | .ok s1 => (s1.1, s1.2))

theorem laws_markFaultS_den (a0 : (List Fault)) (a1 : Int) (hb0 : a0.length < 1099511627776) : DenM Try.prog 40 [ownL 70 4 eFault a0, .int .i64 a1] (.int .i64 ((laws_markFaultS a0 a1).1)) [(ownL 70 4 eFault ((laws_markFaultS a0 a1).2)), .any] := by
  generalize hR : laws_markFaultS a0 a1 = r
  unfold laws_markFaultS at hR
  refine den_introM (gb := [true, false]) G_ok Try.func40 (by kernel_rfl) rfl Try.ntmps40 (by rw [Try.results40]) (by simp) ?_
  intro c hc hk
  simp only [adEL, adE, adRL, adR, ownL, encL, sv, List.nil_append, List.append_nil, List.cons_append, List.length_cons, List.length_nil, pars, Nat.zero_add, Nat.reduceAdd] at hk ⊢
  refine AWP.seq ?_
  refine AWP.regS G_ok laws_markFaultS_DD hc (by kernel_rfl) (fun K hK => ?_); simp only [ea, gv, sv, reduceCtorEq, reduceIte, Nat.reduceBEq, Nat.reduceAdd, Nat.reduceEqDiff, Nat.reduceLT, Nat.reduceLeDiff, Nat.reduceMul, Nat.reduceSub, BEq.rfl, beq_self_eq_true, Int.reduceToNat]
  first | refine hK _ ?_ | refine ⟨by (first | trivial | omega | (simp only [ob, ln, bdv, sv] at *; omega) | ((try clear hK K); (repeat' first | apply And.intro | intro _) <;> first | trivial | omega | assumption | solve_by_elim | (apply bd_getD <;> first | assumption | decide) | (apply bd_subL <;> first | assumption | decide) | (simp only [ob, ln, bdv, sv] at *; first | omega | assumption | (simp_all; done) | grind))), hK _ ?_⟩
  clear hK K
  refine AWP.seq ?_
  refine AWP.seq ?_
  refine AWP.regS G_ok laws_markFaultS_DD hc (by kernel_rfl) (fun K hK => ?_); simp only [ea, gv, sv, reduceCtorEq, reduceIte, Nat.reduceBEq, Nat.reduceAdd, Nat.reduceEqDiff, Nat.reduceLT, Nat.reduceLeDiff, Nat.reduceMul, Nat.reduceSub, BEq.rfl, beq_self_eq_true, Int.reduceToNat]
  first | refine hK _ ?_ | refine ⟨by (first | trivial | omega | (simp only [ob, ln, bdv, sv] at *; omega) | ((try clear hK K); (repeat' first | apply And.intro | intro _) <;> first | trivial | omega | assumption | solve_by_elim | (apply bd_getD <;> first | assumption | decide) | (apply bd_subL <;> first | assumption | decide) | (simp only [ob, ln, bdv, sv] at *; first | omega | assumption | (simp_all; done) | grind))), hK _ ?_⟩
  clear hK K
  refine AWP.block ?_
  generalize hz1 : loopR (laws_markFaultS_b1 a0 a1) (a0.length - 0) 0 (a1, a0) = z1 at hR
  refine AWP.range (laws_markFaultS_b1 a0 a1) (fun i1 s1 => ⟨[(0, .ref 0 4 0 s1.2.length), (1, .int .i64 s1.1), (5, .int .i64 (i1 : Int))], [.arr 70 4 s1.2.length (fun j => eFault (s1.2.getD j default))]⟩) (fun i1 s1 => s1.2.length = a0.length) (a0.length) 0 (a1, a0) [0] hz1 (by (first | trivial | omega | (simp only [ob, ln, bdv, sv] at *; omega) | ((try clear hK K); (repeat' first | apply And.intro | intro _) <;> first | trivial | omega | assumption | solve_by_elim | (apply bd_getD <;> first | assumption | decide) | (apply bd_subL <;> first | assumption | decide) | (simp only [ob, ln, bdv, sv] at *; first | omega | assumption | (simp_all; done) | grind)))) (by (first | trivial | (and_intros <;> simp only [ln] <;> omega) | (and_intros <;> simp only [ob, ln] at * <;> omega) | (and_intros <;> first | trivial | omega | assumption | (apply bd_set <;> first | assumption | (apply bd_getD <;> first | assumption | decide)) | (apply bd_app <;> first | assumption | (apply bd_getD <;> first | assumption | decide)) | (simp only [ob, ln, bdv, sv] at *; omega) | (simp; done)))) (by (simp only [si, ea, gv, sv, hk, reduceCtorEq, reduceIte, Nat.reduceBEq, Nat.reduceAdd, Nat.reduceEqDiff, Nat.reduceLT, Nat.reduceLeDiff, Nat.reduceMul, Nat.reduceSub, BEq.rfl, beq_self_eq_true, Int.reduceToNat]; first | done | trivial | (and_intros <;> first | rfl | trivial | omega | (rw [IntKind.wrap_i64]; omega) | (simp only [ln]; done) | (simp only [ob, ln, bdv, sv] at *; first | omega | grind) | (left; intro j hj; simp only [pw, Bool.cond_eq_ite, Bool.and_eq_true, decide_eq_true_eq]; (repeat' split) <;> simp [putL, NoBorL, NoBor]) | (intro j hj; simp only [pw, Bool.cond_eq_ite, Bool.and_eq_true, decide_eq_true_eq]; (try rw [subL_getD _ _ _ _ (by first | assumption | omega)]); (try rw [clearL_getD _ _ _ _ (by first | omega | (simp only [ob, ln, bdv] at *; omega))]); (repeat' split) <;> first | rfl | omega | exact simOL_refl _ | (simp_all; done) | (simp_all; rfl) | (simp_all; omega) | (simp_all; exact simOL_refl _) | (simp [putL, NoBorL, NoBor]; done))))) ?_
  clear hz1
  intro i1 s1 hi1 hW1 hz1
  refine AWP.seq ?_
  refine AWP.seq ?_
  refine AWP.regS G_ok laws_markFaultS_DD hc (by kernel_rfl) (fun K hK => ?_); simp only [ea, gv, sv, reduceCtorEq, reduceIte, Nat.reduceBEq, Nat.reduceAdd, Nat.reduceEqDiff, Nat.reduceLT, Nat.reduceLeDiff, Nat.reduceMul, Nat.reduceSub, BEq.rfl, beq_self_eq_true, Int.reduceToNat]
  first | refine hK _ ?_ | refine ⟨by (first | trivial | omega | (simp only [ob, ln, bdv, sv] at *; omega) | ((try clear hK K); (repeat' first | apply And.intro | intro _) <;> first | trivial | omega | assumption | solve_by_elim | (apply bd_getD <;> first | assumption | decide) | (apply bd_subL <;> first | assumption | decide) | (simp only [ob, ln, bdv, sv] at *; first | omega | assumption | (simp_all; done) | grind))), hK _ ?_⟩
  clear hK K
  refine AWP.cond rfl (fun hb => ?_) (fun hb => ?_)
  · have hlt1 : i1 < a0.length := by (first | trivial | omega | (simp only [ob, ln, bdv, sv] at *; omega) | ((try clear hK K); (repeat' first | apply And.intro | intro _) <;> first | trivial | omega | assumption | solve_by_elim | (apply bd_getD <;> first | assumption | decide) | (apply bd_subL <;> first | assumption | decide) | (simp only [ob, ln, bdv, sv] at *; first | omega | assumption | (simp_all; done) | grind)))
    rw [loopR_lt hlt1] at hz1; simp only [laws_markFaultS_b1] at hz1
    refine AWP.skip ?_
    refine AWP.seq ?_
    refine AWP.block ?_
    refine AWP.seq ?_
    refine AWP.regS G_ok laws_markFaultS_DD hc (by kernel_rfl) (fun K hK => ?_); simp only [ea, gv, sv, reduceCtorEq, reduceIte, Nat.reduceBEq, Nat.reduceAdd, Nat.reduceEqDiff, Nat.reduceLT, Nat.reduceLeDiff, Nat.reduceMul, Nat.reduceSub, BEq.rfl, beq_self_eq_true, Int.reduceToNat]
    first | refine hK _ ?_ | refine ⟨by (first | trivial | omega | (simp only [ob, ln, bdv, sv] at *; omega) | ((try clear hK K); (repeat' first | apply And.intro | intro _) <;> first | trivial | omega | assumption | solve_by_elim | (apply bd_getD <;> first | assumption | decide) | (apply bd_subL <;> first | assumption | decide) | (simp only [ob, ln, bdv, sv] at *; first | omega | assumption | (simp_all; done) | grind))), hK _ ?_⟩
    clear hK K
    refine AWP.seq ?_
    refine AWP.regS G_ok laws_markFaultS_DD hc (by kernel_rfl) (fun K hK => ?_); simp only [ea, gv, sv, reduceCtorEq, reduceIte, Nat.reduceBEq, Nat.reduceAdd, Nat.reduceEqDiff, Nat.reduceLT, Nat.reduceLeDiff, Nat.reduceMul, Nat.reduceSub, BEq.rfl, beq_self_eq_true, Int.reduceToNat]
    first | refine hK _ ?_ | refine ⟨by (first | trivial | omega | (simp only [ob, ln, bdv, sv] at *; omega) | ((try clear hK K); (repeat' first | apply And.intro | intro _) <;> first | trivial | omega | assumption | solve_by_elim | (apply bd_getD <;> first | assumption | decide) | (apply bd_subL <;> first | assumption | decide) | (simp only [ob, ln, bdv, sv] at *; first | omega | assumption | (simp_all; done) | grind))), hK _ ?_⟩
    clear hK K
    refine AWP.seq ?_
    refine AWP.regS G_ok laws_markFaultS_DD hc (by kernel_rfl) (fun K hK => ?_); simp only [ea, gv, sv, reduceCtorEq, reduceIte, Nat.reduceBEq, Nat.reduceAdd, Nat.reduceEqDiff, Nat.reduceLT, Nat.reduceLeDiff, Nat.reduceMul, Nat.reduceSub, BEq.rfl, beq_self_eq_true, Int.reduceToNat]
    first | refine hK _ ?_ | refine ⟨by (first | trivial | omega | (simp only [ob, ln, bdv, sv] at *; omega) | ((try clear hK K); (repeat' first | apply And.intro | intro _) <;> first | trivial | omega | assumption | solve_by_elim | (apply bd_getD <;> first | assumption | decide) | (apply bd_subL <;> first | assumption | decide) | (simp only [ob, ln, bdv, sv] at *; first | omega | assumption | (simp_all; done) | grind))), hK _ ?_⟩
    clear hK K
    refine AWP.seq ?_
    refine AWP.regS G_ok laws_markFaultS_DD hc (by kernel_rfl) (fun K hK => ?_); simp only [ea, gv, sv, reduceCtorEq, reduceIte, Nat.reduceBEq, Nat.reduceAdd, Nat.reduceEqDiff, Nat.reduceLT, Nat.reduceLeDiff, Nat.reduceMul, Nat.reduceSub, BEq.rfl, beq_self_eq_true, Int.reduceToNat]
    first | refine hK _ ?_ | refine ⟨by (first | trivial | omega | (simp only [ob, ln, bdv, sv] at *; omega) | ((try clear hK K); (repeat' first | apply And.intro | intro _) <;> first | trivial | omega | assumption | solve_by_elim | (apply bd_getD <;> first | assumption | decide) | (apply bd_subL <;> first | assumption | decide) | (simp only [ob, ln, bdv, sv] at *; first | omega | assumption | (simp_all; done) | grind))), hK _ ?_⟩
    clear hK K
    refine AWP.seq ?_
    refine AWP.regS G_ok laws_markFaultS_DD hc (by kernel_rfl) (fun K hK => ?_); simp only [ea, gv, sv, reduceCtorEq, reduceIte, Nat.reduceBEq, Nat.reduceAdd, Nat.reduceEqDiff, Nat.reduceLT, Nat.reduceLeDiff, Nat.reduceMul, Nat.reduceSub, BEq.rfl, beq_self_eq_true, Int.reduceToNat]
    first | refine hK _ ?_ | refine ⟨by (first | trivial | omega | (simp only [ob, ln, bdv, sv] at *; omega) | ((try clear hK K); (repeat' first | apply And.intro | intro _) <;> first | trivial | omega | assumption | solve_by_elim | (apply bd_getD <;> first | assumption | decide) | (apply bd_subL <;> first | assumption | decide) | (simp only [ob, ln, bdv, sv] at *; first | omega | assumption | (simp_all; done) | grind))), hK _ ?_⟩
    clear hK K
    refine AWP.seq ?_
    refine AWP.regS G_ok laws_markFaultS_DD hc (by kernel_rfl) (fun K hK => ?_); simp only [ea, gv, sv, reduceCtorEq, reduceIte, Nat.reduceBEq, Nat.reduceAdd, Nat.reduceEqDiff, Nat.reduceLT, Nat.reduceLeDiff, Nat.reduceMul, Nat.reduceSub, BEq.rfl, beq_self_eq_true, Int.reduceToNat]
    first | refine hK _ ?_ | refine ⟨by (first | trivial | omega | (simp only [ob, ln, bdv, sv] at *; omega) | ((try clear hK K); (repeat' first | apply And.intro | intro _) <;> first | trivial | omega | assumption | solve_by_elim | (apply bd_getD <;> first | assumption | decide) | (apply bd_subL <;> first | assumption | decide) | (simp only [ob, ln, bdv, sv] at *; first | omega | assumption | (simp_all; done) | grind))), hK _ ?_⟩
    clear hK K
    refine AWP.seq ?_
    refine AWP.regS G_ok laws_markFaultS_DD hc (by kernel_rfl) (fun K hK => ?_); simp only [ea, gv, sv, reduceCtorEq, reduceIte, Nat.reduceBEq, Nat.reduceAdd, Nat.reduceEqDiff, Nat.reduceLT, Nat.reduceLeDiff, Nat.reduceMul, Nat.reduceSub, BEq.rfl, beq_self_eq_true, Int.reduceToNat]
    first | refine hK _ ?_ | refine ⟨by (first | trivial | omega | (simp only [ob, ln, bdv, sv] at *; omega) | ((try clear hK K); (repeat' first | apply And.intro | intro _) <;> first | trivial | omega | assumption | solve_by_elim | (apply bd_getD <;> first | assumption | decide) | (apply bd_subL <;> first | assumption | decide) | (simp only [ob, ln, bdv, sv] at *; first | omega | assumption | (simp_all; done) | grind))), hK _ ?_⟩
    clear hK K
    refine AWP.regS G_ok laws_markFaultS_DD hc (by kernel_rfl) (fun K hK => ?_); simp only [ea, gv, sv, reduceCtorEq, reduceIte, Nat.reduceBEq, Nat.reduceAdd, Nat.reduceEqDiff, Nat.reduceLT, Nat.reduceLeDiff, Nat.reduceMul, Nat.reduceSub, BEq.rfl, beq_self_eq_true, Int.reduceToNat]
    first | refine hK _ ?_ | refine ⟨by (first | trivial | omega | (simp only [ob, ln, bdv, sv] at *; omega) | ((try clear hK K); (repeat' first | apply And.intro | intro _) <;> first | trivial | omega | assumption | solve_by_elim | (apply bd_getD <;> first | assumption | decide) | (apply bd_subL <;> first | assumption | decide) | (simp only [ob, ln, bdv, sv] at *; first | omega | assumption | (simp_all; done) | grind))), hK _ ?_⟩
    clear hK K
    refine AWP.regS G_ok laws_markFaultS_DD hc (by kernel_rfl) (fun K hK => ?_); simp only [ea, gv, sv, reduceCtorEq, reduceIte, Nat.reduceBEq, Nat.reduceAdd, Nat.reduceEqDiff, Nat.reduceLT, Nat.reduceLeDiff, Nat.reduceMul, Nat.reduceSub, BEq.rfl, beq_self_eq_true, Int.reduceToNat]
    first | refine hK _ ?_ | refine ⟨by (first | trivial | omega | (simp only [ob, ln, bdv, sv] at *; omega) | ((try clear hK K); (repeat' first | apply And.intro | intro _) <;> first | trivial | omega | assumption | solve_by_elim | (apply bd_getD <;> first | assumption | decide) | (apply bd_subL <;> first | assumption | decide) | (simp only [ob, ln, bdv, sv] at *; first | omega | assumption | (simp_all; done) | grind))), hK _ ?_⟩
    clear hK K
    exact ⟨_, [0], hlt1, by (first | trivial | (and_intros <;> simp only [ln] <;> omega) | (and_intros <;> simp only [ob, ln] at * <;> omega) | (and_intros <;> first | trivial | omega | assumption | (apply bd_set <;> first | assumption | (apply bd_getD <;> first | assumption | decide)) | (apply bd_app <;> first | assumption | (apply bd_getD <;> first | assumption | decide)) | (simp only [ob, ln, bdv, sv] at *; omega) | (simp; done))), hz1, by (simp only [si, ea, gv, sv, hk, reduceCtorEq, reduceIte, Nat.reduceBEq, Nat.reduceAdd, Nat.reduceEqDiff, Nat.reduceLT, Nat.reduceLeDiff, Nat.reduceMul, Nat.reduceSub, BEq.rfl, beq_self_eq_true, Int.reduceToNat]; first | done | trivial | (and_intros <;> first | rfl | trivial | omega | (rw [IntKind.wrap_i64]; omega) | (simp only [ln]; done) | (simp only [ob, ln, bdv, sv] at *; first | omega | grind) | (left; intro j hj; simp only [pw, Bool.cond_eq_ite, Bool.and_eq_true, decide_eq_true_eq]; (repeat' split) <;> simp [putL, NoBorL, NoBor]) | (intro j hj; simp only [pw, Bool.cond_eq_ite, Bool.and_eq_true, decide_eq_true_eq]; (try rw [subL_getD _ _ _ _ (by first | assumption | omega)]); (try rw [clearL_getD _ _ _ _ (by first | omega | (simp only [ob, ln, bdv] at *; omega))]); (repeat' split) <;> first | rfl | omega | exact simOL_refl _ | (simp_all; done) | (simp_all; rfl) | (simp_all; omega) | (simp_all; exact simOL_refl _) | (simp [putL, NoBorL, NoBor]; done))))⟩
  · obtain rfl : i1 = a0.length := by (first | trivial | omega | (simp only [ob, ln, bdv, sv] at *; omega) | ((try clear hK K); (repeat' first | apply And.intro | intro _) <;> first | trivial | omega | assumption | solve_by_elim | (apply bd_getD <;> first | assumption | decide) | (apply bd_subL <;> first | assumption | decide) | (simp only [ob, ln, bdv, sv] at *; first | omega | assumption | (simp_all; done) | grind)))
    rw [loopR_ge (Nat.le_refl _)] at hz1; subst hz1; dsimp only at hR
    refine AWP.exit ?_; refine exitTo_here ?_
    refine AWP.seq ?_
    refine AWP.regS G_ok laws_markFaultS_DD hc (by kernel_rfl) (fun K hK => ?_); simp only [ea, gv, sv, reduceCtorEq, reduceIte, Nat.reduceBEq, Nat.reduceAdd, Nat.reduceEqDiff, Nat.reduceLT, Nat.reduceLeDiff, Nat.reduceMul, Nat.reduceSub, BEq.rfl, beq_self_eq_true, Int.reduceToNat]
    first | refine hK _ ?_ | refine ⟨by (first | trivial | omega | (simp only [ob, ln, bdv, sv] at *; omega) | ((try clear hK K); (repeat' first | apply And.intro | intro _) <;> first | trivial | omega | assumption | solve_by_elim | (apply bd_getD <;> first | assumption | decide) | (apply bd_subL <;> first | assumption | decide) | (simp only [ob, ln, bdv, sv] at *; first | omega | assumption | (simp_all; done) | grind))), hK _ ?_⟩
    clear hK K
    refine AWP.ret ?_
    subst hR
    (simp only [en, si, ea, gv, sv, hk, reduceCtorEq, reduceIte, Nat.reduceBEq, Nat.reduceAdd, Nat.reduceEqDiff, Nat.reduceLT, Nat.reduceLeDiff, Nat.reduceMul, Nat.reduceSub, BEq.rfl, beq_self_eq_true, Int.reduceToNat]; first | done | trivial | (and_intros <;> first | rfl | trivial | omega | (rw [IntKind.wrap_i64]; omega) | (simp only [ln]; done) | (simp only [ob, ln, bdv, sv] at *; first | omega | grind) | (left; intro j hj; simp only [pw, Bool.cond_eq_ite, Bool.and_eq_true, decide_eq_true_eq]; (repeat' split) <;> simp [putL, NoBorL, NoBor]) | (intro j hj; simp only [pw, Bool.cond_eq_ite, Bool.and_eq_true, decide_eq_true_eq]; (try rw [subL_getD _ _ _ _ (by first | assumption | omega)]); (try rw [clearL_getD _ _ _ _ (by first | omega | (simp only [ob, ln, bdv] at *; omega))]); (repeat' split) <;> first | rfl | omega | exact simOL_refl _ | (simp_all; done) | (simp_all; rfl) | (simp_all; omega) | (simp_all; exact simOL_refl _) | (simp [putL, NoBorL, NoBor]; done))))

def D_laws_markFaultS : List AV → Option (AV × List AV × List Prop)
  | [x0, x1] => some (.int .i64 ((laws_markFaultS (rdL dFault x0) (rdI x1)).1), [(ownL 70 4 eFault ((laws_markFaultS (rdL dFault x0) (rdI x1)).2)), .any], [wO 70 4 eFault dFault x0, wI .i64 x1, (rdL dFault x0).length < 1099511627776])
  | _ => none
theorem D_laws_markFaultS_ok : OkM Try.prog 40 D_laws_markFaultS := by
  intro xs r outs ob h ho
  unfold D_laws_markFaultS at h
  split at h
  · simp only [Option.some.injEq, Prod.mk.injEq] at h
    obtain ⟨rfl, rfl, rfl⟩ := h
    obtain ⟨h0, h1, hb0, _⟩ := ho
    exact DenM.sim (laws_markFaultS_den _ _ hb0) (simOL_cons (wO_sim h0) <| simOL_cons (wI_sim h1).1 <| trivial)
  · cases h
end Go.Ab

namespace Go.Ab
open Go Go.Proofs
theorem laws_markFaultS_len (a : List Fault) (k : Int) : (laws_markFaultS a k).2.length = a.length := by
  unfold laws_markFaultS
  obtain ⟨t, h1, h2⟩ := loopR_total (b := laws_markFaultS_b1 a k) (fun _ s => s.2.length = a.length) (k := a.length - 0) (i := 0) (s := (k, a)) rfl (by
    intro j u _ _ h
    exact ⟨_, rfl, by simpa using h⟩)
  rw [h1]
  exact h2
theorem laws_markFaultS_sub (a : List Fault) (k : Int) : subL (laws_markFaultS a k).2 0 a.length = (laws_markFaultS a k).2 := by
  rw [← laws_markFaultS_len a k]; exact subL_all _
end Go.Ab
