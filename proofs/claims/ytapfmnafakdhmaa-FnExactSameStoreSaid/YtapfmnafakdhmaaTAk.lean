/- A part of a proof: walks of functions and lemmas of our own. No conditions. -/
import Derived.Test.YtapfmnafakdhmaaTAj
import Derived.Test.YtapfmnafakdhmaaTAh
set_option linter.unusedSectionVars false
set_option linter.unusedVariables false
set_option linter.unusedSimpArgs false
namespace Go.Ab
open Go Go.Proofs
theorem impl_same_Spare_DD : DOk Try.prog (DD []) := DD_nil _
def impl_same_Spare_b1 (a0 : (List Spare)) (a1 : (List Spare)) (i1 : Nat) (s1 : Unit) : Except (Bool) (Unit) :=
  (bif (!(((a0.getD i1 default).Name) == ((a1.getD i1 default).Name) && (((a0.getD i1 default).Least) == ((a1.getD i1 default).Least) && ((a0.getD i1 default).Most) == ((a1.getD i1 default).Most)))) then .error false else .ok ())

def impl_same_Spare (a0 : (List Spare)) (a1 : (List Spare)) : Bool :=
  (bif ((a0.length : Int) != (a1.length : Int)) then false else (match loopR (impl_same_Spare_b1 a0 a1) (a0.length - 0) 0 () with | .error e => e | .ok s1 => true))

theorem impl_same_Spare_den (a0 : (List Spare)) (a1 : (List Spare))  : Den Try.prog 71 [encL 3 eSpare a0, encL 3 eSpare a1] (.bool (impl_same_Spare a0 a1)) := by
  generalize hR : impl_same_Spare a0 a1 = r
  unfold impl_same_Spare at hR
  refine den_intro G_ok Try.func71 (by kernel_rfl) rfl Try.ntmps71 (by rw [Try.results71]) (by simp) rfl ?_
  intro c hL hc hk
  obtain ⟨hL0, hL1, _⟩ := hL
  have hw0 : a0.length < 9223372036854775808 := Nat.lt_succ_of_le (lens_encL hL0).1
  have hw1 : ∀ v ∈ a0, bwSpare v := fun v hv => Spare_lens v ((lens_encL hL0).2 v hv)
  have hw2 : a1.length < 9223372036854775808 := Nat.lt_succ_of_le (lens_encL hL1).1
  have hw3 : ∀ v ∈ a1, bwSpare v := fun v hv => Spare_lens v ((lens_encL hL1).2 v hv)
  clear hL0 hL1
  simp only [pars, Nat.zero_add]
  refine AWP.seq ?_
  refine AWP.regS G_ok impl_same_Spare_DD hc (by kernel_rfl) (fun K hK => ?_); simp only [ea, gv, sv, reduceCtorEq, reduceIte, Nat.reduceBEq, Nat.reduceAdd, Nat.reduceEqDiff, Nat.reduceLT, Nat.reduceLeDiff, Nat.reduceMul, Nat.reduceSub, BEq.rfl, beq_self_eq_true, Int.reduceToNat]
  first | refine hK _ ?_ | refine ⟨by (first | trivial | omega | (simp only [ob, ln, bdv, sv] at *; omega) | ((try clear hK K); (repeat' first | apply And.intro | intro _) <;> first | trivial | omega | assumption | solve_by_elim | (apply bd_getD <;> first | assumption | decide) | (apply bd_subL <;> first | assumption | decide) | (simp only [ob, ln, bdv, sv] at *; first | omega | assumption | (simp_all; done) | grind))), hK _ ?_⟩
  clear hK K
  refine AWP.seq ?_
  refine AWP.seq ?_
  refine AWP.regS G_ok impl_same_Spare_DD hc (by kernel_rfl) (fun K hK => ?_); simp only [ea, gv, sv, reduceCtorEq, reduceIte, Nat.reduceBEq, Nat.reduceAdd, Nat.reduceEqDiff, Nat.reduceLT, Nat.reduceLeDiff, Nat.reduceMul, Nat.reduceSub, BEq.rfl, beq_self_eq_true, Int.reduceToNat]
  first | refine hK _ ?_ | refine ⟨by (first | trivial | omega | (simp only [ob, ln, bdv, sv] at *; omega) | ((try clear hK K); (repeat' first | apply And.intro | intro _) <;> first | trivial | omega | assumption | solve_by_elim | (apply bd_getD <;> first | assumption | decide) | (apply bd_subL <;> first | assumption | decide) | (simp only [ob, ln, bdv, sv] at *; first | omega | assumption | (simp_all; done) | grind))), hK _ ?_⟩
  clear hK K
  refine AWP.cond rfl (fun hb => ?_) (fun hb => ?_)
  · first | simp only [hb, cond_true] at hR | (simp only [*] at hb; simp only [hb, cond_true] at hR)
    refine AWP.seq ?_
    refine AWP.regS G_ok impl_same_Spare_DD hc (by kernel_rfl) (fun K hK => ?_); simp only [ea, gv, sv, reduceCtorEq, reduceIte, Nat.reduceBEq, Nat.reduceAdd, Nat.reduceEqDiff, Nat.reduceLT, Nat.reduceLeDiff, Nat.reduceMul, Nat.reduceSub, BEq.rfl, beq_self_eq_true, Int.reduceToNat]
    first | refine hK _ ?_ | refine ⟨by (first | trivial | omega | (simp only [ob, ln, bdv, sv] at *; omega) | ((try clear hK K); (repeat' first | apply And.intro | intro _) <;> first | trivial | omega | assumption | solve_by_elim | (apply bd_getD <;> first | assumption | decide) | (apply bd_subL <;> first | assumption | decide) | (simp only [ob, ln, bdv, sv] at *; first | omega | assumption | (simp_all; done) | grind))), hK _ ?_⟩
    clear hK K
    refine AWP.ret ?_
    subst hR
    (simp only [en, si, ea, gv, sv, hk, reduceCtorEq, reduceIte, Nat.reduceBEq, Nat.reduceAdd, Nat.reduceEqDiff, Nat.reduceLT, Nat.reduceLeDiff, Nat.reduceMul, Nat.reduceSub, BEq.rfl, beq_self_eq_true, Int.reduceToNat]; first | done | trivial | (and_intros <;> first | rfl | trivial | omega | (rw [IntKind.wrap_i64]; omega) | (simp only [ln]; done) | (simp only [ob, ln, bdv, sv] at *; first | omega | grind) | (left; intro j hj; simp only [pw, Bool.cond_eq_ite, Bool.and_eq_true, decide_eq_true_eq]; (repeat' split) <;> simp [putL, NoBorL, NoBor]) | (intro j hj; simp only [pw, Bool.cond_eq_ite, Bool.and_eq_true, decide_eq_true_eq]; (try rw [subL_getD _ _ _ _ (by first | assumption | omega)]); (try rw [clearL_getD _ _ _ _ (by first | omega | (simp only [ob, ln, bdv] at *; omega))]); (repeat' split) <;> first | rfl | omega | exact simOL_refl _ | (simp_all; done) | (simp_all; rfl) | (simp_all; omega) | (simp_all; exact simOL_refl _) | (simp [putL, NoBorL, NoBor]; done))))
  · first | simp only [hb, cond_false] at hR | (simp only [*] at hb; simp only [hb, cond_false] at hR)
    refine AWP.skip ?_
    refine AWP.seq ?_
    refine AWP.seq ?_
    refine AWP.regS G_ok impl_same_Spare_DD hc (by kernel_rfl) (fun K hK => ?_); simp only [ea, gv, sv, reduceCtorEq, reduceIte, Nat.reduceBEq, Nat.reduceAdd, Nat.reduceEqDiff, Nat.reduceLT, Nat.reduceLeDiff, Nat.reduceMul, Nat.reduceSub, BEq.rfl, beq_self_eq_true, Int.reduceToNat]
    first | refine hK _ ?_ | refine ⟨by (first | trivial | omega | (simp only [ob, ln, bdv, sv] at *; omega) | ((try clear hK K); (repeat' first | apply And.intro | intro _) <;> first | trivial | omega | assumption | solve_by_elim | (apply bd_getD <;> first | assumption | decide) | (apply bd_subL <;> first | assumption | decide) | (simp only [ob, ln, bdv, sv] at *; first | omega | assumption | (simp_all; done) | grind))), hK _ ?_⟩
    clear hK K
    refine AWP.block ?_
    generalize hz1 : loopR (impl_same_Spare_b1 a0 a1) (a0.length - 0) 0 () = z1 at hR
    refine AWP.range (impl_same_Spare_b1 a0 a1) (fun i1 s1 => ⟨[(0, encL 3 eSpare a0), (1, encL 3 eSpare a1), (12, .int .i64 (a0.length : Int)), (13, .int .i64 (i1 : Int))], []⟩) (fun i1 s1 => True) (a0.length) 0 () [] hz1 (by (first | trivial | omega | (simp only [ob, ln, bdv, sv] at *; omega) | ((try clear hK K); (repeat' first | apply And.intro | intro _) <;> first | trivial | omega | assumption | solve_by_elim | (apply bd_getD <;> first | assumption | decide) | (apply bd_subL <;> first | assumption | decide) | (simp only [ob, ln, bdv, sv] at *; first | omega | assumption | (simp_all; done) | grind)))) (by (first | trivial | (and_intros <;> simp only [ln] <;> omega) | (and_intros <;> simp only [ob, ln] at * <;> omega) | (and_intros <;> first | trivial | omega | assumption | (apply bd_set <;> first | assumption | (apply bd_getD <;> first | assumption | decide)) | (apply bd_app <;> first | assumption | (apply bd_getD <;> first | assumption | decide)) | (simp only [ob, ln, bdv, sv] at *; omega) | (simp; done)))) (by (simp only [si, ea, gv, sv, hk, reduceCtorEq, reduceIte, Nat.reduceBEq, Nat.reduceAdd, Nat.reduceEqDiff, Nat.reduceLT, Nat.reduceLeDiff, Nat.reduceMul, Nat.reduceSub, BEq.rfl, beq_self_eq_true, Int.reduceToNat]; first | done | trivial | (and_intros <;> first | rfl | trivial | omega | (rw [IntKind.wrap_i64]; omega) | (simp only [ln]; done) | (simp only [ob, ln, bdv, sv] at *; first | omega | grind) | (left; intro j hj; simp only [pw, Bool.cond_eq_ite, Bool.and_eq_true, decide_eq_true_eq]; (repeat' split) <;> simp [putL, NoBorL, NoBor]) | (intro j hj; simp only [pw, Bool.cond_eq_ite, Bool.and_eq_true, decide_eq_true_eq]; (try rw [subL_getD _ _ _ _ (by first | assumption | omega)]); (try rw [clearL_getD _ _ _ _ (by first | omega | (simp only [ob, ln, bdv] at *; omega))]); (repeat' split) <;> first | rfl | omega | exact simOL_refl _ | (simp_all; done) | (simp_all; rfl) | (simp_all; omega) | (simp_all; exact simOL_refl _) | (simp [putL, NoBorL, NoBor]; done))))) ?_
    clear hz1
    intro i1 s1 hi1 hW1 hz1
    refine AWP.seq ?_
    refine AWP.regS G_ok impl_same_Spare_DD hc (by kernel_rfl) (fun K hK => ?_); simp only [ea, gv, sv, reduceCtorEq, reduceIte, Nat.reduceBEq, Nat.reduceAdd, Nat.reduceEqDiff, Nat.reduceLT, Nat.reduceLeDiff, Nat.reduceMul, Nat.reduceSub, BEq.rfl, beq_self_eq_true, Int.reduceToNat]
    first | refine hK _ ?_ | refine ⟨by (first | trivial | omega | (simp only [ob, ln, bdv, sv] at *; omega) | ((try clear hK K); (repeat' first | apply And.intro | intro _) <;> first | trivial | omega | assumption | solve_by_elim | (apply bd_getD <;> first | assumption | decide) | (apply bd_subL <;> first | assumption | decide) | (simp only [ob, ln, bdv, sv] at *; first | omega | assumption | (simp_all; done) | grind))), hK _ ?_⟩
    clear hK K
    refine AWP.seq ?_
    refine AWP.cond rfl (fun hb => ?_) (fun hb => ?_)
    · have hlt1 : i1 < a0.length := by (first | trivial | omega | (simp only [ob, ln, bdv, sv] at *; omega) | ((try clear hK K); (repeat' first | apply And.intro | intro _) <;> first | trivial | omega | assumption | solve_by_elim | (apply bd_getD <;> first | assumption | decide) | (apply bd_subL <;> first | assumption | decide) | (simp only [ob, ln, bdv, sv] at *; first | omega | assumption | (simp_all; done) | grind)))
      rw [loopR_lt hlt1] at hz1; simp only [impl_same_Spare_b1] at hz1
      refine AWP.skip ?_
      refine AWP.seq ?_
      refine AWP.block ?_
      refine AWP.seq ?_
      refine AWP.regS G_ok impl_same_Spare_DD hc (by kernel_rfl) (fun K hK => ?_); simp only [ea, gv, sv, reduceCtorEq, reduceIte, Nat.reduceBEq, Nat.reduceAdd, Nat.reduceEqDiff, Nat.reduceLT, Nat.reduceLeDiff, Nat.reduceMul, Nat.reduceSub, BEq.rfl, beq_self_eq_true, Int.reduceToNat]
      first | refine hK _ ?_ | refine ⟨by (first | trivial | omega | (simp only [ob, ln, bdv, sv] at *; omega) | ((try clear hK K); (repeat' first | apply And.intro | intro _) <;> first | trivial | omega | assumption | solve_by_elim | (apply bd_getD <;> first | assumption | decide) | (apply bd_subL <;> first | assumption | decide) | (simp only [ob, ln, bdv, sv] at *; first | omega | assumption | (simp_all; done) | grind))), hK _ ?_⟩
      clear hK K
      refine AWP.seq ?_
      refine AWP.regD mixed G_ok impl_same_Spare_DD hc 8 (by kernel_rfl) (by kernel_rfl) (fun K hK => ?_); simp only [ea, gv, sv, reduceCtorEq, reduceIte, Nat.reduceBEq, Nat.reduceAdd, Nat.reduceEqDiff, Nat.reduceLT, Nat.reduceLeDiff, Nat.reduceMul, Nat.reduceSub, BEq.rfl, beq_self_eq_true, Int.reduceToNat]
      first | refine hK _ ?_ | refine ⟨by (first | trivial | omega | (simp only [ob, ln, bdv, sv] at *; omega) | ((try clear hK K); (repeat' first | apply And.intro | intro _) <;> first | trivial | omega | assumption | solve_by_elim | (apply bd_getD <;> first | assumption | decide) | (apply bd_subL <;> first | assumption | decide) | (simp only [ob, ln, bdv, sv] at *; first | omega | assumption | (simp_all; done) | grind))), hK _ ?_⟩
      clear hK K
      refine AWP.cond rfl (fun hb => ?_) (fun hb => ?_)
      · first | simp only [hb, cond_true] at hz1 | (simp only [*] at hb; simp only [hb, cond_true] at hz1)
        refine AWP.seq ?_
        refine AWP.regS G_ok impl_same_Spare_DD hc (by kernel_rfl) (fun K hK => ?_); simp only [ea, gv, sv, reduceCtorEq, reduceIte, Nat.reduceBEq, Nat.reduceAdd, Nat.reduceEqDiff, Nat.reduceLT, Nat.reduceLeDiff, Nat.reduceMul, Nat.reduceSub, BEq.rfl, beq_self_eq_true, Int.reduceToNat]
        first | refine hK _ ?_ | refine ⟨by (first | trivial | omega | (simp only [ob, ln, bdv, sv] at *; omega) | ((try clear hK K); (repeat' first | apply And.intro | intro _) <;> first | trivial | omega | assumption | solve_by_elim | (apply bd_getD <;> first | assumption | decide) | (apply bd_subL <;> first | assumption | decide) | (simp only [ob, ln, bdv, sv] at *; first | omega | assumption | (simp_all; done) | grind))), hK _ ?_⟩
        clear hK K
        refine AWP.ret ?_
        subst hz1
        dsimp only at hR
        subst hR
        (simp only [en, si, ea, gv, sv, hk, reduceCtorEq, reduceIte, Nat.reduceBEq, Nat.reduceAdd, Nat.reduceEqDiff, Nat.reduceLT, Nat.reduceLeDiff, Nat.reduceMul, Nat.reduceSub, BEq.rfl, beq_self_eq_true, Int.reduceToNat]; first | done | trivial | (and_intros <;> first | rfl | trivial | omega | (rw [IntKind.wrap_i64]; omega) | (simp only [ln]; done) | (simp only [ob, ln, bdv, sv] at *; first | omega | grind) | (left; intro j hj; simp only [pw, Bool.cond_eq_ite, Bool.and_eq_true, decide_eq_true_eq]; (repeat' split) <;> simp [putL, NoBorL, NoBor]) | (intro j hj; simp only [pw, Bool.cond_eq_ite, Bool.and_eq_true, decide_eq_true_eq]; (try rw [subL_getD _ _ _ _ (by first | assumption | omega)]); (try rw [clearL_getD _ _ _ _ (by first | omega | (simp only [ob, ln, bdv] at *; omega))]); (repeat' split) <;> first | rfl | omega | exact simOL_refl _ | (simp_all; done) | (simp_all; rfl) | (simp_all; omega) | (simp_all; exact simOL_refl _) | (simp [putL, NoBorL, NoBor]; done))))
      · first | simp only [hb, cond_false] at hz1 | (simp only [*] at hb; simp only [hb, cond_false] at hz1)
        refine AWP.skip ?_
        refine AWP.regS G_ok impl_same_Spare_DD hc (by kernel_rfl) (fun K hK => ?_); simp only [ea, gv, sv, reduceCtorEq, reduceIte, Nat.reduceBEq, Nat.reduceAdd, Nat.reduceEqDiff, Nat.reduceLT, Nat.reduceLeDiff, Nat.reduceMul, Nat.reduceSub, BEq.rfl, beq_self_eq_true, Int.reduceToNat]
        first | refine hK _ ?_ | refine ⟨by (first | trivial | omega | (simp only [ob, ln, bdv, sv] at *; omega) | ((try clear hK K); (repeat' first | apply And.intro | intro _) <;> first | trivial | omega | assumption | solve_by_elim | (apply bd_getD <;> first | assumption | decide) | (apply bd_subL <;> first | assumption | decide) | (simp only [ob, ln, bdv, sv] at *; first | omega | assumption | (simp_all; done) | grind))), hK _ ?_⟩
        clear hK K
        exact ⟨_, [], hlt1, by (first | trivial | (and_intros <;> simp only [ln] <;> omega) | (and_intros <;> simp only [ob, ln] at * <;> omega) | (and_intros <;> first | trivial | omega | assumption | (apply bd_set <;> first | assumption | (apply bd_getD <;> first | assumption | decide)) | (apply bd_app <;> first | assumption | (apply bd_getD <;> first | assumption | decide)) | (simp only [ob, ln, bdv, sv] at *; omega) | (simp; done))), hz1, by (simp only [si, ea, gv, sv, hk, reduceCtorEq, reduceIte, Nat.reduceBEq, Nat.reduceAdd, Nat.reduceEqDiff, Nat.reduceLT, Nat.reduceLeDiff, Nat.reduceMul, Nat.reduceSub, BEq.rfl, beq_self_eq_true, Int.reduceToNat]; first | done | trivial | (and_intros <;> first | rfl | trivial | omega | (rw [IntKind.wrap_i64]; omega) | (simp only [ln]; done) | (simp only [ob, ln, bdv, sv] at *; first | omega | grind) | (left; intro j hj; simp only [pw, Bool.cond_eq_ite, Bool.and_eq_true, decide_eq_true_eq]; (repeat' split) <;> simp [putL, NoBorL, NoBor]) | (intro j hj; simp only [pw, Bool.cond_eq_ite, Bool.and_eq_true, decide_eq_true_eq]; (try rw [subL_getD _ _ _ _ (by first | assumption | omega)]); (try rw [clearL_getD _ _ _ _ (by first | omega | (simp only [ob, ln, bdv] at *; omega))]); (repeat' split) <;> first | rfl | omega | exact simOL_refl _ | (simp_all; done) | (simp_all; rfl) | (simp_all; omega) | (simp_all; exact simOL_refl _) | (simp [putL, NoBorL, NoBor]; done))))⟩
    · obtain rfl : i1 = a0.length := by (first | trivial | omega | (simp only [ob, ln, bdv, sv] at *; omega) | ((try clear hK K); (repeat' first | apply And.intro | intro _) <;> first | trivial | omega | assumption | solve_by_elim | (apply bd_getD <;> first | assumption | decide) | (apply bd_subL <;> first | assumption | decide) | (simp only [ob, ln, bdv, sv] at *; first | omega | assumption | (simp_all; done) | grind)))
      rw [loopR_ge (Nat.le_refl _)] at hz1; subst hz1; dsimp only at hR
      refine AWP.exit ?_; refine exitTo_here ?_
      refine AWP.seq ?_
      refine AWP.regS G_ok impl_same_Spare_DD hc (by kernel_rfl) (fun K hK => ?_); simp only [ea, gv, sv, reduceCtorEq, reduceIte, Nat.reduceBEq, Nat.reduceAdd, Nat.reduceEqDiff, Nat.reduceLT, Nat.reduceLeDiff, Nat.reduceMul, Nat.reduceSub, BEq.rfl, beq_self_eq_true, Int.reduceToNat]
      first | refine hK _ ?_ | refine ⟨by (first | trivial | omega | (simp only [ob, ln, bdv, sv] at *; omega) | ((try clear hK K); (repeat' first | apply And.intro | intro _) <;> first | trivial | omega | assumption | solve_by_elim | (apply bd_getD <;> first | assumption | decide) | (apply bd_subL <;> first | assumption | decide) | (simp only [ob, ln, bdv, sv] at *; first | omega | assumption | (simp_all; done) | grind))), hK _ ?_⟩
      clear hK K
      refine AWP.ret ?_
      subst hR
      (simp only [en, si, ea, gv, sv, hk, reduceCtorEq, reduceIte, Nat.reduceBEq, Nat.reduceAdd, Nat.reduceEqDiff, Nat.reduceLT, Nat.reduceLeDiff, Nat.reduceMul, Nat.reduceSub, BEq.rfl, beq_self_eq_true, Int.reduceToNat]; first | done | trivial | (and_intros <;> first | rfl | trivial | omega | (rw [IntKind.wrap_i64]; omega) | (simp only [ln]; done) | (simp only [ob, ln, bdv, sv] at *; first | omega | grind) | (left; intro j hj; simp only [pw, Bool.cond_eq_ite, Bool.and_eq_true, decide_eq_true_eq]; (repeat' split) <;> simp [putL, NoBorL, NoBor]) | (intro j hj; simp only [pw, Bool.cond_eq_ite, Bool.and_eq_true, decide_eq_true_eq]; (try rw [subL_getD _ _ _ _ (by first | assumption | omega)]); (try rw [clearL_getD _ _ _ _ (by first | omega | (simp only [ob, ln, bdv] at *; omega))]); (repeat' split) <;> first | rfl | omega | exact simOL_refl _ | (simp_all; done) | (simp_all; rfl) | (simp_all; omega) | (simp_all; exact simOL_refl _) | (simp [putL, NoBorL, NoBor]; done))))

def D_impl_same_Spare : DF
  | [x0, x1] => some (.bool (impl_same_Spare (rdL dSpare x0) (rdL dSpare x1)), false, [wL 3 eSpare dSpare x0, wL 3 eSpare dSpare x1])
  | _ => none
theorem D_impl_same_Spare_ok : OkD Try.prog 71 D_impl_same_Spare := by
  intro xs r z ob h ho
  unfold D_impl_same_Spare at h
  split at h
  · simp only [Option.some.injEq, Prod.mk.injEq] at h
    obtain ⟨rfl, rfl, rfl⟩ := h
    obtain ⟨h0, h1, _⟩ := ho
    exact Den.sim (impl_same_Spare_den _ _ ) (simOL_cons (wL_sim h0).1 <| simOL_cons (wL_sim h1).1 <| trivial) (noIdL_cons (wL_sim h0).2 <| noIdL_cons (wL_sim h1).2 <| rfl) rfl
  · cases h
end Go.Ab

namespace Go.Ab
open Go Go.Proofs
theorem same_step_Spare (a b : Spare) : ((a.Name == b.Name && (a.Least == b.Least && a.Most == b.Most))) = decide (a = b) := by
  cases a; cases b
  apply Bool.eq_iff_iff.2
  simp [Spare.mk.injEq]
theorem impl_same_Spare_dec (a b : List Spare) : impl_same_Spare a b = decide (a = b) := by
  unfold impl_same_Spare
  by_cases hl : a.length = b.length
  · have h1 : ((a.length : Int) != (b.length : Int)) = false := by simp [hl]
    rw [h1, cond_false, loopR_any (b := impl_same_Spare_b1 a b) (fun j => !decide (a.getD j default = b.getD j default)) false (fun j u _ _ => by simp only [impl_same_Spare_b1, same_step_Spare])]
    simp only [Nat.sub_zero, Nat.zero_add]
    rw [any_ne a b hl]
    by_cases h : a = b <;> simp [h]
  · have h1 : ((a.length : Int) != (b.length : Int)) = true := by simp; omega
    have h2 : ¬ a = b := fun e => hl (by rw [e])
    rw [h1, cond_true, decide_eq_false h2]
end Go.Ab

namespace Go.Ab
open Go Go.Proofs
theorem impl_same_Entry_DD : DOk Try.prog (DD []) := DD_nil _
def impl_same_Entry_b1 (a0 : (List Entry)) (a1 : (List Entry)) (i1 : Nat) (s1 : Unit) : Except (Bool) (Unit) :=
  (bif (!(((a0.getD i1 default).Day) == ((a1.getD i1 default).Day) && (((a0.getD i1 default).Item) == ((a1.getD i1 default).Item) && ((a0.getD i1 default).Amount) == ((a1.getD i1 default).Amount)))) then .error false else .ok ())

def impl_same_Entry (a0 : (List Entry)) (a1 : (List Entry)) : Bool :=
  (bif ((a0.length : Int) != (a1.length : Int)) then false else (match loopR (impl_same_Entry_b1 a0 a1) (a0.length - 0) 0 () with | .error e => e | .ok s1 => true))

theorem impl_same_Entry_den (a0 : (List Entry)) (a1 : (List Entry))  : Den Try.prog 72 [encL 3 eEntry a0, encL 3 eEntry a1] (.bool (impl_same_Entry a0 a1)) := by
  generalize hR : impl_same_Entry a0 a1 = r
  unfold impl_same_Entry at hR
  refine den_intro G_ok Try.func72 (by kernel_rfl) rfl Try.ntmps72 (by rw [Try.results72]) (by simp) rfl ?_
  intro c hL hc hk
  obtain ⟨hL0, hL1, _⟩ := hL
  have hw0 : a0.length < 9223372036854775808 := Nat.lt_succ_of_le (lens_encL hL0).1
  have hw1 : ∀ v ∈ a0, bwEntry v := fun v hv => Entry_lens v ((lens_encL hL0).2 v hv)
  have hw2 : a1.length < 9223372036854775808 := Nat.lt_succ_of_le (lens_encL hL1).1
  have hw3 : ∀ v ∈ a1, bwEntry v := fun v hv => Entry_lens v ((lens_encL hL1).2 v hv)
  clear hL0 hL1
  simp only [pars, Nat.zero_add]
  refine AWP.seq ?_
  refine AWP.regS G_ok impl_same_Entry_DD hc (by kernel_rfl) (fun K hK => ?_); simp only [ea, gv, sv, reduceCtorEq, reduceIte, Nat.reduceBEq, Nat.reduceAdd, Nat.reduceEqDiff, Nat.reduceLT, Nat.reduceLeDiff, Nat.reduceMul, Nat.reduceSub, BEq.rfl, beq_self_eq_true, Int.reduceToNat]
  first | refine hK _ ?_ | refine ⟨by (first | trivial | omega | (simp only [ob, ln, bdv, sv] at *; omega) | ((try clear hK K); (repeat' first | apply And.intro | intro _) <;> first | trivial | omega | assumption | solve_by_elim | (apply bd_getD <;> first | assumption | decide) | (apply bd_subL <;> first | assumption | decide) | (simp only [ob, ln, bdv, sv] at *; first | omega | assumption | (simp_all; done) | grind))), hK _ ?_⟩
  clear hK K
  refine AWP.seq ?_
  refine AWP.seq ?_
  refine AWP.regS G_ok impl_same_Entry_DD hc (by kernel_rfl) (fun K hK => ?_); simp only [ea, gv, sv, reduceCtorEq, reduceIte, Nat.reduceBEq, Nat.reduceAdd, Nat.reduceEqDiff, Nat.reduceLT, Nat.reduceLeDiff, Nat.reduceMul, Nat.reduceSub, BEq.rfl, beq_self_eq_true, Int.reduceToNat]
  first | refine hK _ ?_ | refine ⟨by (first | trivial | omega | (simp only [ob, ln, bdv, sv] at *; omega) | ((try clear hK K); (repeat' first | apply And.intro | intro _) <;> first | trivial | omega | assumption | solve_by_elim | (apply bd_getD <;> first | assumption | decide) | (apply bd_subL <;> first | assumption | decide) | (simp only [ob, ln, bdv, sv] at *; first | omega | assumption | (simp_all; done) | grind))), hK _ ?_⟩
  clear hK K
  refine AWP.cond rfl (fun hb => ?_) (fun hb => ?_)
  · first | simp only [hb, cond_true] at hR | (simp only [*] at hb; simp only [hb, cond_true] at hR)
    refine AWP.seq ?_
    refine AWP.regS G_ok impl_same_Entry_DD hc (by kernel_rfl) (fun K hK => ?_); simp only [ea, gv, sv, reduceCtorEq, reduceIte, Nat.reduceBEq, Nat.reduceAdd, Nat.reduceEqDiff, Nat.reduceLT, Nat.reduceLeDiff, Nat.reduceMul, Nat.reduceSub, BEq.rfl, beq_self_eq_true, Int.reduceToNat]
    first | refine hK _ ?_ | refine ⟨by (first | trivial | omega | (simp only [ob, ln, bdv, sv] at *; omega) | ((try clear hK K); (repeat' first | apply And.intro | intro _) <;> first | trivial | omega | assumption | solve_by_elim | (apply bd_getD <;> first | assumption | decide) | (apply bd_subL <;> first | assumption | decide) | (simp only [ob, ln, bdv, sv] at *; first | omega | assumption | (simp_all; done) | grind))), hK _ ?_⟩
    clear hK K
    refine AWP.ret ?_
    subst hR
    (simp only [en, si, ea, gv, sv, hk, reduceCtorEq, reduceIte, Nat.reduceBEq, Nat.reduceAdd, Nat.reduceEqDiff, Nat.reduceLT, Nat.reduceLeDiff, Nat.reduceMul, Nat.reduceSub, BEq.rfl, beq_self_eq_true, Int.reduceToNat]; first | done | trivial | (and_intros <;> first | rfl | trivial | omega | (rw [IntKind.wrap_i64]; omega) | (simp only [ln]; done) | (simp only [ob, ln, bdv, sv] at *; first | omega | grind) | (left; intro j hj; simp only [pw, Bool.cond_eq_ite, Bool.and_eq_true, decide_eq_true_eq]; (repeat' split) <;> simp [putL, NoBorL, NoBor]) | (intro j hj; simp only [pw, Bool.cond_eq_ite, Bool.and_eq_true, decide_eq_true_eq]; (try rw [subL_getD _ _ _ _ (by first | assumption | omega)]); (try rw [clearL_getD _ _ _ _ (by first | omega | (simp only [ob, ln, bdv] at *; omega))]); (repeat' split) <;> first | rfl | omega | exact simOL_refl _ | (simp_all; done) | (simp_all; rfl) | (simp_all; omega) | (simp_all; exact simOL_refl _) | (simp [putL, NoBorL, NoBor]; done))))
  · first | simp only [hb, cond_false] at hR | (simp only [*] at hb; simp only [hb, cond_false] at hR)
    refine AWP.skip ?_
    refine AWP.seq ?_
    refine AWP.seq ?_
    refine AWP.regS G_ok impl_same_Entry_DD hc (by kernel_rfl) (fun K hK => ?_); simp only [ea, gv, sv, reduceCtorEq, reduceIte, Nat.reduceBEq, Nat.reduceAdd, Nat.reduceEqDiff, Nat.reduceLT, Nat.reduceLeDiff, Nat.reduceMul, Nat.reduceSub, BEq.rfl, beq_self_eq_true, Int.reduceToNat]
    first | refine hK _ ?_ | refine ⟨by (first | trivial | omega | (simp only [ob, ln, bdv, sv] at *; omega) | ((try clear hK K); (repeat' first | apply And.intro | intro _) <;> first | trivial | omega | assumption | solve_by_elim | (apply bd_getD <;> first | assumption | decide) | (apply bd_subL <;> first | assumption | decide) | (simp only [ob, ln, bdv, sv] at *; first | omega | assumption | (simp_all; done) | grind))), hK _ ?_⟩
    clear hK K
    refine AWP.block ?_
    generalize hz1 : loopR (impl_same_Entry_b1 a0 a1) (a0.length - 0) 0 () = z1 at hR
    refine AWP.range (impl_same_Entry_b1 a0 a1) (fun i1 s1 => ⟨[(0, encL 3 eEntry a0), (1, encL 3 eEntry a1), (12, .int .i64 (a0.length : Int)), (13, .int .i64 (i1 : Int))], []⟩) (fun i1 s1 => True) (a0.length) 0 () [] hz1 (by (first | trivial | omega | (simp only [ob, ln, bdv, sv] at *; omega) | ((try clear hK K); (repeat' first | apply And.intro | intro _) <;> first | trivial | omega | assumption | solve_by_elim | (apply bd_getD <;> first | assumption | decide) | (apply bd_subL <;> first | assumption | decide) | (simp only [ob, ln, bdv, sv] at *; first | omega | assumption | (simp_all; done) | grind)))) (by (first | trivial | (and_intros <;> simp only [ln] <;> omega) | (and_intros <;> simp only [ob, ln] at * <;> omega) | (and_intros <;> first | trivial | omega | assumption | (apply bd_set <;> first | assumption | (apply bd_getD <;> first | assumption | decide)) | (apply bd_app <;> first | assumption | (apply bd_getD <;> first | assumption | decide)) | (simp only [ob, ln, bdv, sv] at *; omega) | (simp; done)))) (by (simp only [si, ea, gv, sv, hk, reduceCtorEq, reduceIte, Nat.reduceBEq, Nat.reduceAdd, Nat.reduceEqDiff, Nat.reduceLT, Nat.reduceLeDiff, Nat.reduceMul, Nat.reduceSub, BEq.rfl, beq_self_eq_true, Int.reduceToNat]; first | done | trivial | (and_intros <;> first | rfl | trivial | omega | (rw [IntKind.wrap_i64]; omega) | (simp only [ln]; done) | (simp only [ob, ln, bdv, sv] at *; first | omega | grind) | (left; intro j hj; simp only [pw, Bool.cond_eq_ite, Bool.and_eq_true, decide_eq_true_eq]; (repeat' split) <;> simp [putL, NoBorL, NoBor]) | (intro j hj; simp only [pw, Bool.cond_eq_ite, Bool.and_eq_true, decide_eq_true_eq]; (try rw [subL_getD _ _ _ _ (by first | assumption | omega)]); (try rw [clearL_getD _ _ _ _ (by first | omega | (simp only [ob, ln, bdv] at *; omega))]); (repeat' split) <;> first | rfl | omega | exact simOL_refl _ | (simp_all; done) | (simp_all; rfl) | (simp_all; omega) | (simp_all; exact simOL_refl _) | (simp [putL, NoBorL, NoBor]; done))))) ?_
    clear hz1
    intro i1 s1 hi1 hW1 hz1
    refine AWP.seq ?_
    refine AWP.regS G_ok impl_same_Entry_DD hc (by kernel_rfl) (fun K hK => ?_); simp only [ea, gv, sv, reduceCtorEq, reduceIte, Nat.reduceBEq, Nat.reduceAdd, Nat.reduceEqDiff, Nat.reduceLT, Nat.reduceLeDiff, Nat.reduceMul, Nat.reduceSub, BEq.rfl, beq_self_eq_true, Int.reduceToNat]
    first | refine hK _ ?_ | refine ⟨by (first | trivial | omega | (simp only [ob, ln, bdv, sv] at *; omega) | ((try clear hK K); (repeat' first | apply And.intro | intro _) <;> first | trivial | omega | assumption | solve_by_elim | (apply bd_getD <;> first | assumption | decide) | (apply bd_subL <;> first | assumption | decide) | (simp only [ob, ln, bdv, sv] at *; first | omega | assumption | (simp_all; done) | grind))), hK _ ?_⟩
    clear hK K
    refine AWP.seq ?_
    refine AWP.cond rfl (fun hb => ?_) (fun hb => ?_)
    · have hlt1 : i1 < a0.length := by (first | trivial | omega | (simp only [ob, ln, bdv, sv] at *; omega) | ((try clear hK K); (repeat' first | apply And.intro | intro _) <;> first | trivial | omega | assumption | solve_by_elim | (apply bd_getD <;> first | assumption | decide) | (apply bd_subL <;> first | assumption | decide) | (simp only [ob, ln, bdv, sv] at *; first | omega | assumption | (simp_all; done) | grind)))
      rw [loopR_lt hlt1] at hz1; simp only [impl_same_Entry_b1] at hz1
      refine AWP.skip ?_
      refine AWP.seq ?_
      refine AWP.block ?_
      refine AWP.seq ?_
      refine AWP.regS G_ok impl_same_Entry_DD hc (by kernel_rfl) (fun K hK => ?_); simp only [ea, gv, sv, reduceCtorEq, reduceIte, Nat.reduceBEq, Nat.reduceAdd, Nat.reduceEqDiff, Nat.reduceLT, Nat.reduceLeDiff, Nat.reduceMul, Nat.reduceSub, BEq.rfl, beq_self_eq_true, Int.reduceToNat]
      first | refine hK _ ?_ | refine ⟨by (first | trivial | omega | (simp only [ob, ln, bdv, sv] at *; omega) | ((try clear hK K); (repeat' first | apply And.intro | intro _) <;> first | trivial | omega | assumption | solve_by_elim | (apply bd_getD <;> first | assumption | decide) | (apply bd_subL <;> first | assumption | decide) | (simp only [ob, ln, bdv, sv] at *; first | omega | assumption | (simp_all; done) | grind))), hK _ ?_⟩
      clear hK K
      refine AWP.seq ?_
      refine AWP.regD mixed G_ok impl_same_Entry_DD hc 8 (by kernel_rfl) (by kernel_rfl) (fun K hK => ?_); simp only [ea, gv, sv, reduceCtorEq, reduceIte, Nat.reduceBEq, Nat.reduceAdd, Nat.reduceEqDiff, Nat.reduceLT, Nat.reduceLeDiff, Nat.reduceMul, Nat.reduceSub, BEq.rfl, beq_self_eq_true, Int.reduceToNat]
      first | refine hK _ ?_ | refine ⟨by (first | trivial | omega | (simp only [ob, ln, bdv, sv] at *; omega) | ((try clear hK K); (repeat' first | apply And.intro | intro _) <;> first | trivial | omega | assumption | solve_by_elim | (apply bd_getD <;> first | assumption | decide) | (apply bd_subL <;> first | assumption | decide) | (simp only [ob, ln, bdv, sv] at *; first | omega | assumption | (simp_all; done) | grind))), hK _ ?_⟩
      clear hK K
      refine AWP.cond rfl (fun hb => ?_) (fun hb => ?_)
      · first | simp only [hb, cond_true] at hz1 | (simp only [*] at hb; simp only [hb, cond_true] at hz1)
        refine AWP.seq ?_
        refine AWP.regS G_ok impl_same_Entry_DD hc (by kernel_rfl) (fun K hK => ?_); simp only [ea, gv, sv, reduceCtorEq, reduceIte, Nat.reduceBEq, Nat.reduceAdd, Nat.reduceEqDiff, Nat.reduceLT, Nat.reduceLeDiff, Nat.reduceMul, Nat.reduceSub, BEq.rfl, beq_self_eq_true, Int.reduceToNat]
        first | refine hK _ ?_ | refine ⟨by (first | trivial | omega | (simp only [ob, ln, bdv, sv] at *; omega) | ((try clear hK K); (repeat' first | apply And.intro | intro _) <;> first | trivial | omega | assumption | solve_by_elim | (apply bd_getD <;> first | assumption | decide) | (apply bd_subL <;> first | assumption | decide) | (simp only [ob, ln, bdv, sv] at *; first | omega | assumption | (simp_all; done) | grind))), hK _ ?_⟩
        clear hK K
        refine AWP.ret ?_
        subst hz1
        dsimp only at hR
        subst hR
        (simp only [en, si, ea, gv, sv, hk, reduceCtorEq, reduceIte, Nat.reduceBEq, Nat.reduceAdd, Nat.reduceEqDiff, Nat.reduceLT, Nat.reduceLeDiff, Nat.reduceMul, Nat.reduceSub, BEq.rfl, beq_self_eq_true, Int.reduceToNat]; first | done | trivial | (and_intros <;> first | rfl | trivial | omega | (rw [IntKind.wrap_i64]; omega) | (simp only [ln]; done) | (simp only [ob, ln, bdv, sv] at *; first | omega | grind) | (left; intro j hj; simp only [pw, Bool.cond_eq_ite, Bool.and_eq_true, decide_eq_true_eq]; (repeat' split) <;> simp [putL, NoBorL, NoBor]) | (intro j hj; simp only [pw, Bool.cond_eq_ite, Bool.and_eq_true, decide_eq_true_eq]; (try rw [subL_getD _ _ _ _ (by first | assumption | omega)]); (try rw [clearL_getD _ _ _ _ (by first | omega | (simp only [ob, ln, bdv] at *; omega))]); (repeat' split) <;> first | rfl | omega | exact simOL_refl _ | (simp_all; done) | (simp_all; rfl) | (simp_all; omega) | (simp_all; exact simOL_refl _) | (simp [putL, NoBorL, NoBor]; done))))
      · first | simp only [hb, cond_false] at hz1 | (simp only [*] at hb; simp only [hb, cond_false] at hz1)
        refine AWP.skip ?_
        refine AWP.regS G_ok impl_same_Entry_DD hc (by kernel_rfl) (fun K hK => ?_); simp only [ea, gv, sv, reduceCtorEq, reduceIte, Nat.reduceBEq, Nat.reduceAdd, Nat.reduceEqDiff, Nat.reduceLT, Nat.reduceLeDiff, Nat.reduceMul, Nat.reduceSub, BEq.rfl, beq_self_eq_true, Int.reduceToNat]
        first | refine hK _ ?_ | refine ⟨by (first | trivial | omega | (simp only [ob, ln, bdv, sv] at *; omega) | ((try clear hK K); (repeat' first | apply And.intro | intro _) <;> first | trivial | omega | assumption | solve_by_elim | (apply bd_getD <;> first | assumption | decide) | (apply bd_subL <;> first | assumption | decide) | (simp only [ob, ln, bdv, sv] at *; first | omega | assumption | (simp_all; done) | grind))), hK _ ?_⟩
        clear hK K
        exact ⟨_, [], hlt1, by (first | trivial | (and_intros <;> simp only [ln] <;> omega) | (and_intros <;> simp only [ob, ln] at * <;> omega) | (and_intros <;> first | trivial | omega | assumption | (apply bd_set <;> first | assumption | (apply bd_getD <;> first | assumption | decide)) | (apply bd_app <;> first | assumption | (apply bd_getD <;> first | assumption | decide)) | (simp only [ob, ln, bdv, sv] at *; omega) | (simp; done))), hz1, by (simp only [si, ea, gv, sv, hk, reduceCtorEq, reduceIte, Nat.reduceBEq, Nat.reduceAdd, Nat.reduceEqDiff, Nat.reduceLT, Nat.reduceLeDiff, Nat.reduceMul, Nat.reduceSub, BEq.rfl, beq_self_eq_true, Int.reduceToNat]; first | done | trivial | (and_intros <;> first | rfl | trivial | omega | (rw [IntKind.wrap_i64]; omega) | (simp only [ln]; done) | (simp only [ob, ln, bdv, sv] at *; first | omega | grind) | (left; intro j hj; simp only [pw, Bool.cond_eq_ite, Bool.and_eq_true, decide_eq_true_eq]; (repeat' split) <;> simp [putL, NoBorL, NoBor]) | (intro j hj; simp only [pw, Bool.cond_eq_ite, Bool.and_eq_true, decide_eq_true_eq]; (try rw [subL_getD _ _ _ _ (by first | assumption | omega)]); (try rw [clearL_getD _ _ _ _ (by first | omega | (simp only [ob, ln, bdv] at *; omega))]); (repeat' split) <;> first | rfl | omega | exact simOL_refl _ | (simp_all; done) | (simp_all; rfl) | (simp_all; omega) | (simp_all; exact simOL_refl _) | (simp [putL, NoBorL, NoBor]; done))))⟩
    · obtain rfl : i1 = a0.length := by (first | trivial | omega | (simp only [ob, ln, bdv, sv] at *; omega) | ((try clear hK K); (repeat' first | apply And.intro | intro _) <;> first | trivial | omega | assumption | solve_by_elim | (apply bd_getD <;> first | assumption | decide) | (apply bd_subL <;> first | assumption | decide) | (simp only [ob, ln, bdv, sv] at *; first | omega | assumption | (simp_all; done) | grind)))
      rw [loopR_ge (Nat.le_refl _)] at hz1; subst hz1; dsimp only at hR
      refine AWP.exit ?_; refine exitTo_here ?_
      refine AWP.seq ?_
      refine AWP.regS G_ok impl_same_Entry_DD hc (by kernel_rfl) (fun K hK => ?_); simp only [ea, gv, sv, reduceCtorEq, reduceIte, Nat.reduceBEq, Nat.reduceAdd, Nat.reduceEqDiff, Nat.reduceLT, Nat.reduceLeDiff, Nat.reduceMul, Nat.reduceSub, BEq.rfl, beq_self_eq_true, Int.reduceToNat]
      first | refine hK _ ?_ | refine ⟨by (first | trivial | omega | (simp only [ob, ln, bdv, sv] at *; omega) | ((try clear hK K); (repeat' first | apply And.intro | intro _) <;> first | trivial | omega | assumption | solve_by_elim | (apply bd_getD <;> first | assumption | decide) | (apply bd_subL <;> first | assumption | decide) | (simp only [ob, ln, bdv, sv] at *; first | omega | assumption | (simp_all; done) | grind))), hK _ ?_⟩
      clear hK K
      refine AWP.ret ?_
      subst hR
      (simp only [en, si, ea, gv, sv, hk, reduceCtorEq, reduceIte, Nat.reduceBEq, Nat.reduceAdd, Nat.reduceEqDiff, Nat.reduceLT, Nat.reduceLeDiff, Nat.reduceMul, Nat.reduceSub, BEq.rfl, beq_self_eq_true, Int.reduceToNat]; first | done | trivial | (and_intros <;> first | rfl | trivial | omega | (rw [IntKind.wrap_i64]; omega) | (simp only [ln]; done) | (simp only [ob, ln, bdv, sv] at *; first | omega | grind) | (left; intro j hj; simp only [pw, Bool.cond_eq_ite, Bool.and_eq_true, decide_eq_true_eq]; (repeat' split) <;> simp [putL, NoBorL, NoBor]) | (intro j hj; simp only [pw, Bool.cond_eq_ite, Bool.and_eq_true, decide_eq_true_eq]; (try rw [subL_getD _ _ _ _ (by first | assumption | omega)]); (try rw [clearL_getD _ _ _ _ (by first | omega | (simp only [ob, ln, bdv] at *; omega))]); (repeat' split) <;> first | rfl | omega | exact simOL_refl _ | (simp_all; done) | (simp_all; rfl) | (simp_all; omega) | (simp_all; exact simOL_refl _) | (simp [putL, NoBorL, NoBor]; done))))

def D_impl_same_Entry : DF
  | [x0, x1] => some (.bool (impl_same_Entry (rdL dEntry x0) (rdL dEntry x1)), false, [wL 3 eEntry dEntry x0, wL 3 eEntry dEntry x1])
  | _ => none
theorem D_impl_same_Entry_ok : OkD Try.prog 72 D_impl_same_Entry := by
  intro xs r z ob h ho
  unfold D_impl_same_Entry at h
  split at h
  · simp only [Option.some.injEq, Prod.mk.injEq] at h
    obtain ⟨rfl, rfl, rfl⟩ := h
    obtain ⟨h0, h1, _⟩ := ho
    exact Den.sim (impl_same_Entry_den _ _ ) (simOL_cons (wL_sim h0).1 <| simOL_cons (wL_sim h1).1 <| trivial) (noIdL_cons (wL_sim h0).2 <| noIdL_cons (wL_sim h1).2 <| rfl) rfl
  · cases h
end Go.Ab

namespace Go.Ab
open Go Go.Proofs
theorem same_step_Entry (a b : Entry) : ((a.Day == b.Day && (a.Item == b.Item && a.Amount == b.Amount))) = decide (a = b) := by
  cases a; cases b
  apply Bool.eq_iff_iff.2
  simp [Entry.mk.injEq]
theorem impl_same_Entry_dec (a b : List Entry) : impl_same_Entry a b = decide (a = b) := by
  unfold impl_same_Entry
  by_cases hl : a.length = b.length
  · have h1 : ((a.length : Int) != (b.length : Int)) = false := by simp [hl]
    rw [h1, cond_false, loopR_any (b := impl_same_Entry_b1 a b) (fun j => !decide (a.getD j default = b.getD j default)) false (fun j u _ _ => by simp only [impl_same_Entry_b1, same_step_Entry])]
    simp only [Nat.sub_zero, Nat.zero_add]
    rw [any_ne a b hl]
    by_cases h : a = b <;> simp [h]
  · have h1 : ((a.length : Int) != (b.length : Int)) = true := by simp; omega
    have h2 : ¬ a = b := fun e => hl (by rw [e])
    rw [h1, cond_true, decide_eq_false h2]
end Go.Ab

namespace Go.Ab
open Go Go.Proofs
theorem laws_eqSpare_DD : DOk Try.prog (DD []) := DD_nil _
def laws_eqSpare (a0 : Spare) (a1 : Spare) : Bool :=
  (bif (a0.Name != a1.Name) then false else (bif (a0.Least != a1.Least) then false else (bif (a0.Most != a1.Most) then false else true)))

theorem laws_eqSpare_den (a0 : Spare) (a1 : Spare)  : Den Try.prog 116 [.agg (eSpare a0), .agg (eSpare a1)] (.bool (laws_eqSpare a0 a1)) := by
  generalize hR : laws_eqSpare a0 a1 = r
  unfold laws_eqSpare at hR
  refine den_intro G_ok Try.func116 (by kernel_rfl) rfl Try.ntmps116 (by rw [Try.results116]) (by simp) rfl ?_
  intro c hL hc hk
  obtain ⟨hL0, hL1, _⟩ := hL
  have hw0 : bwSpare a0 := Spare_lens a0 hL0
  have hw1 : bwSpare a1 := Spare_lens a1 hL1
  clear hL0 hL1
  simp only [pars, Nat.zero_add]
  refine AWP.seq ?_
  refine AWP.regS G_ok laws_eqSpare_DD hc (by kernel_rfl) (fun K hK => ?_); simp only [ea, gv, sv, reduceCtorEq, reduceIte, Nat.reduceBEq, Nat.reduceAdd, Nat.reduceEqDiff, Nat.reduceLT, Nat.reduceLeDiff, Nat.reduceMul, Nat.reduceSub, BEq.rfl, beq_self_eq_true, Int.reduceToNat]
  first | refine hK _ ?_ | refine ⟨by (first | trivial | omega | (simp only [ob, ln, bdv, sv] at *; omega) | ((try clear hK K); (repeat' first | apply And.intro | intro _) <;> first | trivial | omega | assumption | solve_by_elim | (apply bd_getD <;> first | assumption | decide) | (apply bd_subL <;> first | assumption | decide) | (simp only [ob, ln, bdv, sv] at *; first | omega | assumption | (simp_all; done) | grind))), hK _ ?_⟩
  clear hK K
  refine AWP.seq ?_
  refine AWP.seq ?_
  refine AWP.regS G_ok laws_eqSpare_DD hc (by kernel_rfl) (fun K hK => ?_); simp only [ea, gv, sv, reduceCtorEq, reduceIte, Nat.reduceBEq, Nat.reduceAdd, Nat.reduceEqDiff, Nat.reduceLT, Nat.reduceLeDiff, Nat.reduceMul, Nat.reduceSub, BEq.rfl, beq_self_eq_true, Int.reduceToNat]
  first | refine hK _ ?_ | refine ⟨by (first | trivial | omega | (simp only [ob, ln, bdv, sv] at *; omega) | ((try clear hK K); (repeat' first | apply And.intro | intro _) <;> first | trivial | omega | assumption | solve_by_elim | (apply bd_getD <;> first | assumption | decide) | (apply bd_subL <;> first | assumption | decide) | (simp only [ob, ln, bdv, sv] at *; first | omega | assumption | (simp_all; done) | grind))), hK _ ?_⟩
  clear hK K
  refine AWP.cond rfl (fun hb => ?_) (fun hb => ?_)
  · first | simp only [hb, cond_true] at hR | (simp only [*] at hb; simp only [hb, cond_true] at hR)
    refine AWP.seq ?_
    refine AWP.regS G_ok laws_eqSpare_DD hc (by kernel_rfl) (fun K hK => ?_); simp only [ea, gv, sv, reduceCtorEq, reduceIte, Nat.reduceBEq, Nat.reduceAdd, Nat.reduceEqDiff, Nat.reduceLT, Nat.reduceLeDiff, Nat.reduceMul, Nat.reduceSub, BEq.rfl, beq_self_eq_true, Int.reduceToNat]
    first | refine hK _ ?_ | refine ⟨by (first | trivial | omega | (simp only [ob, ln, bdv, sv] at *; omega) | ((try clear hK K); (repeat' first | apply And.intro | intro _) <;> first | trivial | omega | assumption | solve_by_elim | (apply bd_getD <;> first | assumption | decide) | (apply bd_subL <;> first | assumption | decide) | (simp only [ob, ln, bdv, sv] at *; first | omega | assumption | (simp_all; done) | grind))), hK _ ?_⟩
    clear hK K
    refine AWP.ret ?_
    subst hR
    (simp only [en, si, ea, gv, sv, hk, reduceCtorEq, reduceIte, Nat.reduceBEq, Nat.reduceAdd, Nat.reduceEqDiff, Nat.reduceLT, Nat.reduceLeDiff, Nat.reduceMul, Nat.reduceSub, BEq.rfl, beq_self_eq_true, Int.reduceToNat]; first | done | trivial | (and_intros <;> first | rfl | trivial | omega | (rw [IntKind.wrap_i64]; omega) | (simp only [ln]; done) | (simp only [ob, ln, bdv, sv] at *; first | omega | grind) | (left; intro j hj; simp only [pw, Bool.cond_eq_ite, Bool.and_eq_true, decide_eq_true_eq]; (repeat' split) <;> simp [putL, NoBorL, NoBor]) | (intro j hj; simp only [pw, Bool.cond_eq_ite, Bool.and_eq_true, decide_eq_true_eq]; (try rw [subL_getD _ _ _ _ (by first | assumption | omega)]); (try rw [clearL_getD _ _ _ _ (by first | omega | (simp only [ob, ln, bdv] at *; omega))]); (repeat' split) <;> first | rfl | omega | exact simOL_refl _ | (simp_all; done) | (simp_all; rfl) | (simp_all; omega) | (simp_all; exact simOL_refl _) | (simp [putL, NoBorL, NoBor]; done))))
  · first | simp only [hb, cond_false] at hR | (simp only [*] at hb; simp only [hb, cond_false] at hR)
    refine AWP.skip ?_
    refine AWP.seq ?_
    refine AWP.seq ?_
    refine AWP.regS G_ok laws_eqSpare_DD hc (by kernel_rfl) (fun K hK => ?_); simp only [ea, gv, sv, reduceCtorEq, reduceIte, Nat.reduceBEq, Nat.reduceAdd, Nat.reduceEqDiff, Nat.reduceLT, Nat.reduceLeDiff, Nat.reduceMul, Nat.reduceSub, BEq.rfl, beq_self_eq_true, Int.reduceToNat]
    first | refine hK _ ?_ | refine ⟨by (first | trivial | omega | (simp only [ob, ln, bdv, sv] at *; omega) | ((try clear hK K); (repeat' first | apply And.intro | intro _) <;> first | trivial | omega | assumption | solve_by_elim | (apply bd_getD <;> first | assumption | decide) | (apply bd_subL <;> first | assumption | decide) | (simp only [ob, ln, bdv, sv] at *; first | omega | assumption | (simp_all; done) | grind))), hK _ ?_⟩
    clear hK K
    refine AWP.cond rfl (fun hb => ?_) (fun hb => ?_)
    · first | simp only [hb, cond_true] at hR | (simp only [*] at hb; simp only [hb, cond_true] at hR)
      refine AWP.seq ?_
      refine AWP.regS G_ok laws_eqSpare_DD hc (by kernel_rfl) (fun K hK => ?_); simp only [ea, gv, sv, reduceCtorEq, reduceIte, Nat.reduceBEq, Nat.reduceAdd, Nat.reduceEqDiff, Nat.reduceLT, Nat.reduceLeDiff, Nat.reduceMul, Nat.reduceSub, BEq.rfl, beq_self_eq_true, Int.reduceToNat]
      first | refine hK _ ?_ | refine ⟨by (first | trivial | omega | (simp only [ob, ln, bdv, sv] at *; omega) | ((try clear hK K); (repeat' first | apply And.intro | intro _) <;> first | trivial | omega | assumption | solve_by_elim | (apply bd_getD <;> first | assumption | decide) | (apply bd_subL <;> first | assumption | decide) | (simp only [ob, ln, bdv, sv] at *; first | omega | assumption | (simp_all; done) | grind))), hK _ ?_⟩
      clear hK K
      refine AWP.ret ?_
      subst hR
      (simp only [en, si, ea, gv, sv, hk, reduceCtorEq, reduceIte, Nat.reduceBEq, Nat.reduceAdd, Nat.reduceEqDiff, Nat.reduceLT, Nat.reduceLeDiff, Nat.reduceMul, Nat.reduceSub, BEq.rfl, beq_self_eq_true, Int.reduceToNat]; first | done | trivial | (and_intros <;> first | rfl | trivial | omega | (rw [IntKind.wrap_i64]; omega) | (simp only [ln]; done) | (simp only [ob, ln, bdv, sv] at *; first | omega | grind) | (left; intro j hj; simp only [pw, Bool.cond_eq_ite, Bool.and_eq_true, decide_eq_true_eq]; (repeat' split) <;> simp [putL, NoBorL, NoBor]) | (intro j hj; simp only [pw, Bool.cond_eq_ite, Bool.and_eq_true, decide_eq_true_eq]; (try rw [subL_getD _ _ _ _ (by first | assumption | omega)]); (try rw [clearL_getD _ _ _ _ (by first | omega | (simp only [ob, ln, bdv] at *; omega))]); (repeat' split) <;> first | rfl | omega | exact simOL_refl _ | (simp_all; done) | (simp_all; rfl) | (simp_all; omega) | (simp_all; exact simOL_refl _) | (simp [putL, NoBorL, NoBor]; done))))
    · first | simp only [hb, cond_false] at hR | (simp only [*] at hb; simp only [hb, cond_false] at hR)
      refine AWP.skip ?_
      refine AWP.seq ?_
      refine AWP.seq ?_
      refine AWP.regS G_ok laws_eqSpare_DD hc (by kernel_rfl) (fun K hK => ?_); simp only [ea, gv, sv, reduceCtorEq, reduceIte, Nat.reduceBEq, Nat.reduceAdd, Nat.reduceEqDiff, Nat.reduceLT, Nat.reduceLeDiff, Nat.reduceMul, Nat.reduceSub, BEq.rfl, beq_self_eq_true, Int.reduceToNat]
      first | refine hK _ ?_ | refine ⟨by (first | trivial | omega | (simp only [ob, ln, bdv, sv] at *; omega) | ((try clear hK K); (repeat' first | apply And.intro | intro _) <;> first | trivial | omega | assumption | solve_by_elim | (apply bd_getD <;> first | assumption | decide) | (apply bd_subL <;> first | assumption | decide) | (simp only [ob, ln, bdv, sv] at *; first | omega | assumption | (simp_all; done) | grind))), hK _ ?_⟩
      clear hK K
      refine AWP.cond rfl (fun hb => ?_) (fun hb => ?_)
      · first | simp only [hb, cond_true] at hR | (simp only [*] at hb; simp only [hb, cond_true] at hR)
        refine AWP.seq ?_
        refine AWP.regS G_ok laws_eqSpare_DD hc (by kernel_rfl) (fun K hK => ?_); simp only [ea, gv, sv, reduceCtorEq, reduceIte, Nat.reduceBEq, Nat.reduceAdd, Nat.reduceEqDiff, Nat.reduceLT, Nat.reduceLeDiff, Nat.reduceMul, Nat.reduceSub, BEq.rfl, beq_self_eq_true, Int.reduceToNat]
        first | refine hK _ ?_ | refine ⟨by (first | trivial | omega | (simp only [ob, ln, bdv, sv] at *; omega) | ((try clear hK K); (repeat' first | apply And.intro | intro _) <;> first | trivial | omega | assumption | solve_by_elim | (apply bd_getD <;> first | assumption | decide) | (apply bd_subL <;> first | assumption | decide) | (simp only [ob, ln, bdv, sv] at *; first | omega | assumption | (simp_all; done) | grind))), hK _ ?_⟩
        clear hK K
        refine AWP.ret ?_
        subst hR
        (simp only [en, si, ea, gv, sv, hk, reduceCtorEq, reduceIte, Nat.reduceBEq, Nat.reduceAdd, Nat.reduceEqDiff, Nat.reduceLT, Nat.reduceLeDiff, Nat.reduceMul, Nat.reduceSub, BEq.rfl, beq_self_eq_true, Int.reduceToNat]; first | done | trivial | (and_intros <;> first | rfl | trivial | omega | (rw [IntKind.wrap_i64]; omega) | (simp only [ln]; done) | (simp only [ob, ln, bdv, sv] at *; first | omega | grind) | (left; intro j hj; simp only [pw, Bool.cond_eq_ite, Bool.and_eq_true, decide_eq_true_eq]; (repeat' split) <;> simp [putL, NoBorL, NoBor]) | (intro j hj; simp only [pw, Bool.cond_eq_ite, Bool.and_eq_true, decide_eq_true_eq]; (try rw [subL_getD _ _ _ _ (by first | assumption | omega)]); (try rw [clearL_getD _ _ _ _ (by first | omega | (simp only [ob, ln, bdv] at *; omega))]); (repeat' split) <;> first | rfl | omega | exact simOL_refl _ | (simp_all; done) | (simp_all; rfl) | (simp_all; omega) | (simp_all; exact simOL_refl _) | (simp [putL, NoBorL, NoBor]; done))))
      · first | simp only [hb, cond_false] at hR | (simp only [*] at hb; simp only [hb, cond_false] at hR)
        refine AWP.skip ?_
        refine AWP.seq ?_
        refine AWP.regS G_ok laws_eqSpare_DD hc (by kernel_rfl) (fun K hK => ?_); simp only [ea, gv, sv, reduceCtorEq, reduceIte, Nat.reduceBEq, Nat.reduceAdd, Nat.reduceEqDiff, Nat.reduceLT, Nat.reduceLeDiff, Nat.reduceMul, Nat.reduceSub, BEq.rfl, beq_self_eq_true, Int.reduceToNat]
        first | refine hK _ ?_ | refine ⟨by (first | trivial | omega | (simp only [ob, ln, bdv, sv] at *; omega) | ((try clear hK K); (repeat' first | apply And.intro | intro _) <;> first | trivial | omega | assumption | solve_by_elim | (apply bd_getD <;> first | assumption | decide) | (apply bd_subL <;> first | assumption | decide) | (simp only [ob, ln, bdv, sv] at *; first | omega | assumption | (simp_all; done) | grind))), hK _ ?_⟩
        clear hK K
        refine AWP.ret ?_
        subst hR
        (simp only [en, si, ea, gv, sv, hk, reduceCtorEq, reduceIte, Nat.reduceBEq, Nat.reduceAdd, Nat.reduceEqDiff, Nat.reduceLT, Nat.reduceLeDiff, Nat.reduceMul, Nat.reduceSub, BEq.rfl, beq_self_eq_true, Int.reduceToNat]; first | done | trivial | (and_intros <;> first | rfl | trivial | omega | (rw [IntKind.wrap_i64]; omega) | (simp only [ln]; done) | (simp only [ob, ln, bdv, sv] at *; first | omega | grind) | (left; intro j hj; simp only [pw, Bool.cond_eq_ite, Bool.and_eq_true, decide_eq_true_eq]; (repeat' split) <;> simp [putL, NoBorL, NoBor]) | (intro j hj; simp only [pw, Bool.cond_eq_ite, Bool.and_eq_true, decide_eq_true_eq]; (try rw [subL_getD _ _ _ _ (by first | assumption | omega)]); (try rw [clearL_getD _ _ _ _ (by first | omega | (simp only [ob, ln, bdv] at *; omega))]); (repeat' split) <;> first | rfl | omega | exact simOL_refl _ | (simp_all; done) | (simp_all; rfl) | (simp_all; omega) | (simp_all; exact simOL_refl _) | (simp [putL, NoBorL, NoBor]; done))))

def D_laws_eqSpare : DF
  | [x0, x1] => some (.bool (laws_eqSpare (rdG dSpare x0) (rdG dSpare x1)), false, [wG eSpare dSpare x0, wG eSpare dSpare x1])
  | _ => none
theorem D_laws_eqSpare_ok : OkD Try.prog 116 D_laws_eqSpare := by
  intro xs r z ob h ho
  unfold D_laws_eqSpare at h
  split at h
  · simp only [Option.some.injEq, Prod.mk.injEq] at h
    obtain ⟨rfl, rfl, rfl⟩ := h
    obtain ⟨h0, h1, _⟩ := ho
    exact Den.sim (laws_eqSpare_den _ _ ) (simOL_cons (wG_sim h0).1 <| simOL_cons (wG_sim h1).1 <| trivial) (noIdL_cons (wG_sim h0).2 <| noIdL_cons (wG_sim h1).2 <| rfl) rfl
  · cases h
end Go.Ab

namespace Go.Ab
open Go Go.Proofs
theorem laws_eqSpareS_DD : DOk Try.prog (DD [(116, dP D_laws_eqSpare)]) := DD_cons D_laws_eqSpare_ok.e <| DD_nil _
def laws_eqSpareS_b1 (a0 : (List Spare)) (a1 : (List Spare)) (i1 : Nat) (s1 : Unit) : Except (Bool) (Unit) :=
  (bif (!(laws_eqSpare (a0.getD i1 default) (a1.getD i1 default))) then .error false else .ok ())

def laws_eqSpareS (a0 : (List Spare)) (a1 : (List Spare)) : Bool :=
  (bif ((a0.length : Int) != (a1.length : Int)) then false else (match loopR (laws_eqSpareS_b1 a0 a1) (a0.length - 0) 0 () with | .error e => e | .ok s1 => true))

theorem laws_eqSpareS_den (a0 : (List Spare)) (a1 : (List Spare))  : Den Try.prog 73 [encL 3 eSpare a0, encL 3 eSpare a1] (.bool (laws_eqSpareS a0 a1)) := by
  generalize hR : laws_eqSpareS a0 a1 = r
  unfold laws_eqSpareS at hR
  refine den_intro G_ok Try.func73 (by kernel_rfl) rfl Try.ntmps73 (by rw [Try.results73]) (by simp) rfl ?_
  intro c hL hc hk
  obtain ⟨hL0, hL1, _⟩ := hL
  have hw0 : a0.length < 9223372036854775808 := Nat.lt_succ_of_le (lens_encL hL0).1
  have hw1 : ∀ v ∈ a0, bwSpare v := fun v hv => Spare_lens v ((lens_encL hL0).2 v hv)
  have hw2 : a1.length < 9223372036854775808 := Nat.lt_succ_of_le (lens_encL hL1).1
  have hw3 : ∀ v ∈ a1, bwSpare v := fun v hv => Spare_lens v ((lens_encL hL1).2 v hv)
  clear hL0 hL1
  simp only [pars, Nat.zero_add]
  refine AWP.seq ?_
  refine AWP.regS G_ok laws_eqSpareS_DD hc (by kernel_rfl) (fun K hK => ?_); simp only [ea, gv, sv, D_laws_eqSpare, reduceCtorEq, reduceIte, Nat.reduceBEq, Nat.reduceAdd, Nat.reduceEqDiff, Nat.reduceLT, Nat.reduceLeDiff, Nat.reduceMul, Nat.reduceSub, BEq.rfl, beq_self_eq_true, Int.reduceToNat]
  first | refine hK _ ?_ | refine ⟨by (first | trivial | omega | (simp only [ob, ln, bdv, sv] at *; omega) | ((try clear hK K); (repeat' first | apply And.intro | intro _) <;> first | trivial | omega | assumption | solve_by_elim | (apply bd_getD <;> first | assumption | decide) | (apply bd_subL <;> first | assumption | decide) | (simp only [ob, ln, bdv, sv] at *; first | omega | assumption | (simp_all; done) | grind))), hK _ ?_⟩
  clear hK K
  refine AWP.seq ?_
  refine AWP.seq ?_
  refine AWP.regS G_ok laws_eqSpareS_DD hc (by kernel_rfl) (fun K hK => ?_); simp only [ea, gv, sv, D_laws_eqSpare, reduceCtorEq, reduceIte, Nat.reduceBEq, Nat.reduceAdd, Nat.reduceEqDiff, Nat.reduceLT, Nat.reduceLeDiff, Nat.reduceMul, Nat.reduceSub, BEq.rfl, beq_self_eq_true, Int.reduceToNat]
  first | refine hK _ ?_ | refine ⟨by (first | trivial | omega | (simp only [ob, ln, bdv, sv] at *; omega) | ((try clear hK K); (repeat' first | apply And.intro | intro _) <;> first | trivial | omega | assumption | solve_by_elim | (apply bd_getD <;> first | assumption | decide) | (apply bd_subL <;> first | assumption | decide) | (simp only [ob, ln, bdv, sv] at *; first | omega | assumption | (simp_all; done) | grind))), hK _ ?_⟩
  clear hK K
  refine AWP.cond rfl (fun hb => ?_) (fun hb => ?_)
  · first | simp only [hb, cond_true] at hR | (simp only [*] at hb; simp only [hb, cond_true] at hR)
    refine AWP.seq ?_
    refine AWP.regS G_ok laws_eqSpareS_DD hc (by kernel_rfl) (fun K hK => ?_); simp only [ea, gv, sv, D_laws_eqSpare, reduceCtorEq, reduceIte, Nat.reduceBEq, Nat.reduceAdd, Nat.reduceEqDiff, Nat.reduceLT, Nat.reduceLeDiff, Nat.reduceMul, Nat.reduceSub, BEq.rfl, beq_self_eq_true, Int.reduceToNat]
    first | refine hK _ ?_ | refine ⟨by (first | trivial | omega | (simp only [ob, ln, bdv, sv] at *; omega) | ((try clear hK K); (repeat' first | apply And.intro | intro _) <;> first | trivial | omega | assumption | solve_by_elim | (apply bd_getD <;> first | assumption | decide) | (apply bd_subL <;> first | assumption | decide) | (simp only [ob, ln, bdv, sv] at *; first | omega | assumption | (simp_all; done) | grind))), hK _ ?_⟩
    clear hK K
    refine AWP.ret ?_
    subst hR
    (simp only [en, si, ea, gv, sv, hk, reduceCtorEq, reduceIte, Nat.reduceBEq, Nat.reduceAdd, Nat.reduceEqDiff, Nat.reduceLT, Nat.reduceLeDiff, Nat.reduceMul, Nat.reduceSub, BEq.rfl, beq_self_eq_true, Int.reduceToNat]; first | done | trivial | (and_intros <;> first | rfl | trivial | omega | (rw [IntKind.wrap_i64]; omega) | (simp only [ln]; done) | (simp only [ob, ln, bdv, sv] at *; first | omega | grind) | (left; intro j hj; simp only [pw, Bool.cond_eq_ite, Bool.and_eq_true, decide_eq_true_eq]; (repeat' split) <;> simp [putL, NoBorL, NoBor]) | (intro j hj; simp only [pw, Bool.cond_eq_ite, Bool.and_eq_true, decide_eq_true_eq]; (try rw [subL_getD _ _ _ _ (by first | assumption | omega)]); (try rw [clearL_getD _ _ _ _ (by first | omega | (simp only [ob, ln, bdv] at *; omega))]); (repeat' split) <;> first | rfl | omega | exact simOL_refl _ | (simp_all; done) | (simp_all; rfl) | (simp_all; omega) | (simp_all; exact simOL_refl _) | (simp [putL, NoBorL, NoBor]; done))))
  · first | simp only [hb, cond_false] at hR | (simp only [*] at hb; simp only [hb, cond_false] at hR)
    refine AWP.skip ?_
    refine AWP.seq ?_
    refine AWP.seq ?_
    refine AWP.regS G_ok laws_eqSpareS_DD hc (by kernel_rfl) (fun K hK => ?_); simp only [ea, gv, sv, D_laws_eqSpare, reduceCtorEq, reduceIte, Nat.reduceBEq, Nat.reduceAdd, Nat.reduceEqDiff, Nat.reduceLT, Nat.reduceLeDiff, Nat.reduceMul, Nat.reduceSub, BEq.rfl, beq_self_eq_true, Int.reduceToNat]
    first | refine hK _ ?_ | refine ⟨by (first | trivial | omega | (simp only [ob, ln, bdv, sv] at *; omega) | ((try clear hK K); (repeat' first | apply And.intro | intro _) <;> first | trivial | omega | assumption | solve_by_elim | (apply bd_getD <;> first | assumption | decide) | (apply bd_subL <;> first | assumption | decide) | (simp only [ob, ln, bdv, sv] at *; first | omega | assumption | (simp_all; done) | grind))), hK _ ?_⟩
    clear hK K
    refine AWP.block ?_
    generalize hz1 : loopR (laws_eqSpareS_b1 a0 a1) (a0.length - 0) 0 () = z1 at hR
    refine AWP.range (laws_eqSpareS_b1 a0 a1) (fun i1 s1 => ⟨[(0, encL 3 eSpare a0), (1, encL 3 eSpare a1), (5, .int .i64 (i1 : Int))], []⟩) (fun i1 s1 => True) (a0.length) 0 () [] hz1 (by (first | trivial | omega | (simp only [ob, ln, bdv, sv] at *; omega) | ((try clear hK K); (repeat' first | apply And.intro | intro _) <;> first | trivial | omega | assumption | solve_by_elim | (apply bd_getD <;> first | assumption | decide) | (apply bd_subL <;> first | assumption | decide) | (simp only [ob, ln, bdv, sv] at *; first | omega | assumption | (simp_all; done) | grind)))) (by (first | trivial | (and_intros <;> simp only [ln] <;> omega) | (and_intros <;> simp only [ob, ln] at * <;> omega) | (and_intros <;> first | trivial | omega | assumption | (apply bd_set <;> first | assumption | (apply bd_getD <;> first | assumption | decide)) | (apply bd_app <;> first | assumption | (apply bd_getD <;> first | assumption | decide)) | (simp only [ob, ln, bdv, sv] at *; omega) | (simp; done)))) (by (simp only [si, ea, gv, sv, hk, reduceCtorEq, reduceIte, Nat.reduceBEq, Nat.reduceAdd, Nat.reduceEqDiff, Nat.reduceLT, Nat.reduceLeDiff, Nat.reduceMul, Nat.reduceSub, BEq.rfl, beq_self_eq_true, Int.reduceToNat]; first | done | trivial | (and_intros <;> first | rfl | trivial | omega | (rw [IntKind.wrap_i64]; omega) | (simp only [ln]; done) | (simp only [ob, ln, bdv, sv] at *; first | omega | grind) | (left; intro j hj; simp only [pw, Bool.cond_eq_ite, Bool.and_eq_true, decide_eq_true_eq]; (repeat' split) <;> simp [putL, NoBorL, NoBor]) | (intro j hj; simp only [pw, Bool.cond_eq_ite, Bool.and_eq_true, decide_eq_true_eq]; (try rw [subL_getD _ _ _ _ (by first | assumption | omega)]); (try rw [clearL_getD _ _ _ _ (by first | omega | (simp only [ob, ln, bdv] at *; omega))]); (repeat' split) <;> first | rfl | omega | exact simOL_refl _ | (simp_all; done) | (simp_all; rfl) | (simp_all; omega) | (simp_all; exact simOL_refl _) | (simp [putL, NoBorL, NoBor]; done))))) ?_
    clear hz1
    intro i1 s1 hi1 hW1 hz1
    refine AWP.seq ?_
    refine AWP.seq ?_
    refine AWP.regS G_ok laws_eqSpareS_DD hc (by kernel_rfl) (fun K hK => ?_); simp only [ea, gv, sv, D_laws_eqSpare, reduceCtorEq, reduceIte, Nat.reduceBEq, Nat.reduceAdd, Nat.reduceEqDiff, Nat.reduceLT, Nat.reduceLeDiff, Nat.reduceMul, Nat.reduceSub, BEq.rfl, beq_self_eq_true, Int.reduceToNat]
    first | refine hK _ ?_ | refine ⟨by (first | trivial | omega | (simp only [ob, ln, bdv, sv] at *; omega) | ((try clear hK K); (repeat' first | apply And.intro | intro _) <;> first | trivial | omega | assumption | solve_by_elim | (apply bd_getD <;> first | assumption | decide) | (apply bd_subL <;> first | assumption | decide) | (simp only [ob, ln, bdv, sv] at *; first | omega | assumption | (simp_all; done) | grind))), hK _ ?_⟩
    clear hK K
    refine AWP.cond rfl (fun hb => ?_) (fun hb => ?_)
    · have hlt1 : i1 < a0.length := by (first | trivial | omega | (simp only [ob, ln, bdv, sv] at *; omega) | ((try clear hK K); (repeat' first | apply And.intro | intro _) <;> first | trivial | omega | assumption | solve_by_elim | (apply bd_getD <;> first | assumption | decide) | (apply bd_subL <;> first | assumption | decide) | (simp only [ob, ln, bdv, sv] at *; first | omega | assumption | (simp_all; done) | grind)))
      rw [loopR_lt hlt1] at hz1; simp only [laws_eqSpareS_b1] at hz1
      refine AWP.skip ?_
      refine AWP.seq ?_
      refine AWP.block ?_
      refine AWP.seq ?_
      refine AWP.regD mixed G_ok laws_eqSpareS_DD hc 8 (by kernel_rfl) (by kernel_rfl) (fun K hK => ?_); simp only [ea, gv, sv, D_laws_eqSpare, reduceCtorEq, reduceIte, Nat.reduceBEq, Nat.reduceAdd, Nat.reduceEqDiff, Nat.reduceLT, Nat.reduceLeDiff, Nat.reduceMul, Nat.reduceSub, BEq.rfl, beq_self_eq_true, Int.reduceToNat]
      first | refine hK _ ?_ | refine ⟨by (first | trivial | omega | (simp only [ob, ln, bdv, sv] at *; omega) | ((try clear hK K); (repeat' first | apply And.intro | intro _) <;> first | trivial | omega | assumption | solve_by_elim | (apply bd_getD <;> first | assumption | decide) | (apply bd_subL <;> first | assumption | decide) | (simp only [ob, ln, bdv, sv] at *; first | omega | assumption | (simp_all; done) | grind))), hK _ ?_⟩
      clear hK K
      refine AWP.cond rfl (fun hb => ?_) (fun hb => ?_)
      · first | simp only [hb, cond_true] at hz1 | (simp only [*] at hb; simp only [hb, cond_true] at hz1)
        refine AWP.seq ?_
        refine AWP.regS G_ok laws_eqSpareS_DD hc (by kernel_rfl) (fun K hK => ?_); simp only [ea, gv, sv, D_laws_eqSpare, reduceCtorEq, reduceIte, Nat.reduceBEq, Nat.reduceAdd, Nat.reduceEqDiff, Nat.reduceLT, Nat.reduceLeDiff, Nat.reduceMul, Nat.reduceSub, BEq.rfl, beq_self_eq_true, Int.reduceToNat]
        first | refine hK _ ?_ | refine ⟨by (first | trivial | omega | (simp only [ob, ln, bdv, sv] at *; omega) | ((try clear hK K); (repeat' first | apply And.intro | intro _) <;> first | trivial | omega | assumption | solve_by_elim | (apply bd_getD <;> first | assumption | decide) | (apply bd_subL <;> first | assumption | decide) | (simp only [ob, ln, bdv, sv] at *; first | omega | assumption | (simp_all; done) | grind))), hK _ ?_⟩
        clear hK K
        refine AWP.ret ?_
        subst hz1
        dsimp only at hR
        subst hR
        (simp only [en, si, ea, gv, sv, hk, reduceCtorEq, reduceIte, Nat.reduceBEq, Nat.reduceAdd, Nat.reduceEqDiff, Nat.reduceLT, Nat.reduceLeDiff, Nat.reduceMul, Nat.reduceSub, BEq.rfl, beq_self_eq_true, Int.reduceToNat]; first | done | trivial | (and_intros <;> first | rfl | trivial | omega | (rw [IntKind.wrap_i64]; omega) | (simp only [ln]; done) | (simp only [ob, ln, bdv, sv] at *; first | omega | grind) | (left; intro j hj; simp only [pw, Bool.cond_eq_ite, Bool.and_eq_true, decide_eq_true_eq]; (repeat' split) <;> simp [putL, NoBorL, NoBor]) | (intro j hj; simp only [pw, Bool.cond_eq_ite, Bool.and_eq_true, decide_eq_true_eq]; (try rw [subL_getD _ _ _ _ (by first | assumption | omega)]); (try rw [clearL_getD _ _ _ _ (by first | omega | (simp only [ob, ln, bdv] at *; omega))]); (repeat' split) <;> first | rfl | omega | exact simOL_refl _ | (simp_all; done) | (simp_all; rfl) | (simp_all; omega) | (simp_all; exact simOL_refl _) | (simp [putL, NoBorL, NoBor]; done))))
      · first | simp only [hb, cond_false] at hz1 | (simp only [*] at hb; simp only [hb, cond_false] at hz1)
        refine AWP.skip ?_
        refine AWP.regS G_ok laws_eqSpareS_DD hc (by kernel_rfl) (fun K hK => ?_); simp only [ea, gv, sv, D_laws_eqSpare, reduceCtorEq, reduceIte, Nat.reduceBEq, Nat.reduceAdd, Nat.reduceEqDiff, Nat.reduceLT, Nat.reduceLeDiff, Nat.reduceMul, Nat.reduceSub, BEq.rfl, beq_self_eq_true, Int.reduceToNat]
        first | refine hK _ ?_ | refine ⟨by (first | trivial | omega | (simp only [ob, ln, bdv, sv] at *; omega) | ((try clear hK K); (repeat' first | apply And.intro | intro _) <;> first | trivial | omega | assumption | solve_by_elim | (apply bd_getD <;> first | assumption | decide) | (apply bd_subL <;> first | assumption | decide) | (simp only [ob, ln, bdv, sv] at *; first | omega | assumption | (simp_all; done) | grind))), hK _ ?_⟩
        clear hK K
        exact ⟨_, [], hlt1, by (first | trivial | (and_intros <;> simp only [ln] <;> omega) | (and_intros <;> simp only [ob, ln] at * <;> omega) | (and_intros <;> first | trivial | omega | assumption | (apply bd_set <;> first | assumption | (apply bd_getD <;> first | assumption | decide)) | (apply bd_app <;> first | assumption | (apply bd_getD <;> first | assumption | decide)) | (simp only [ob, ln, bdv, sv] at *; omega) | (simp; done))), hz1, by (simp only [si, ea, gv, sv, hk, reduceCtorEq, reduceIte, Nat.reduceBEq, Nat.reduceAdd, Nat.reduceEqDiff, Nat.reduceLT, Nat.reduceLeDiff, Nat.reduceMul, Nat.reduceSub, BEq.rfl, beq_self_eq_true, Int.reduceToNat]; first | done | trivial | (and_intros <;> first | rfl | trivial | omega | (rw [IntKind.wrap_i64]; omega) | (simp only [ln]; done) | (simp only [ob, ln, bdv, sv] at *; first | omega | grind) | (left; intro j hj; simp only [pw, Bool.cond_eq_ite, Bool.and_eq_true, decide_eq_true_eq]; (repeat' split) <;> simp [putL, NoBorL, NoBor]) | (intro j hj; simp only [pw, Bool.cond_eq_ite, Bool.and_eq_true, decide_eq_true_eq]; (try rw [subL_getD _ _ _ _ (by first | assumption | omega)]); (try rw [clearL_getD _ _ _ _ (by first | omega | (simp only [ob, ln, bdv] at *; omega))]); (repeat' split) <;> first | rfl | omega | exact simOL_refl _ | (simp_all; done) | (simp_all; rfl) | (simp_all; omega) | (simp_all; exact simOL_refl _) | (simp [putL, NoBorL, NoBor]; done))))⟩
    · obtain rfl : i1 = a0.length := by (first | trivial | omega | (simp only [ob, ln, bdv, sv] at *; omega) | ((try clear hK K); (repeat' first | apply And.intro | intro _) <;> first | trivial | omega | assumption | solve_by_elim | (apply bd_getD <;> first | assumption | decide) | (apply bd_subL <;> first | assumption | decide) | (simp only [ob, ln, bdv, sv] at *; first | omega | assumption | (simp_all; done) | grind)))
      rw [loopR_ge (Nat.le_refl _)] at hz1; subst hz1; dsimp only at hR
      refine AWP.exit ?_; refine exitTo_here ?_
      refine AWP.seq ?_
      refine AWP.regS G_ok laws_eqSpareS_DD hc (by kernel_rfl) (fun K hK => ?_); simp only [ea, gv, sv, D_laws_eqSpare, reduceCtorEq, reduceIte, Nat.reduceBEq, Nat.reduceAdd, Nat.reduceEqDiff, Nat.reduceLT, Nat.reduceLeDiff, Nat.reduceMul, Nat.reduceSub, BEq.rfl, beq_self_eq_true, Int.reduceToNat]
      first | refine hK _ ?_ | refine ⟨by (first | trivial | omega | (simp only [ob, ln, bdv, sv] at *; omega) | ((try clear hK K); (repeat' first | apply And.intro | intro _) <;> first | trivial | omega | assumption | solve_by_elim | (apply bd_getD <;> first | assumption | decide) | (apply bd_subL <;> first | assumption | decide) | (simp only [ob, ln, bdv, sv] at *; first | omega | assumption | (simp_all; done) | grind))), hK _ ?_⟩
      clear hK K
      refine AWP.ret ?_
      subst hR
      (simp only [en, si, ea, gv, sv, hk, reduceCtorEq, reduceIte, Nat.reduceBEq, Nat.reduceAdd, Nat.reduceEqDiff, Nat.reduceLT, Nat.reduceLeDiff, Nat.reduceMul, Nat.reduceSub, BEq.rfl, beq_self_eq_true, Int.reduceToNat]; first | done | trivial | (and_intros <;> first | rfl | trivial | omega | (rw [IntKind.wrap_i64]; omega) | (simp only [ln]; done) | (simp only [ob, ln, bdv, sv] at *; first | omega | grind) | (left; intro j hj; simp only [pw, Bool.cond_eq_ite, Bool.and_eq_true, decide_eq_true_eq]; (repeat' split) <;> simp [putL, NoBorL, NoBor]) | (intro j hj; simp only [pw, Bool.cond_eq_ite, Bool.and_eq_true, decide_eq_true_eq]; (try rw [subL_getD _ _ _ _ (by first | assumption | omega)]); (try rw [clearL_getD _ _ _ _ (by first | omega | (simp only [ob, ln, bdv] at *; omega))]); (repeat' split) <;> first | rfl | omega | exact simOL_refl _ | (simp_all; done) | (simp_all; rfl) | (simp_all; omega) | (simp_all; exact simOL_refl _) | (simp [putL, NoBorL, NoBor]; done))))

def D_laws_eqSpareS : DF
  | [x0, x1] => some (.bool (laws_eqSpareS (rdL dSpare x0) (rdL dSpare x1)), false, [wL 3 eSpare dSpare x0, wL 3 eSpare dSpare x1])
  | _ => none
theorem D_laws_eqSpareS_ok : OkD Try.prog 73 D_laws_eqSpareS := by
  intro xs r z ob h ho
  unfold D_laws_eqSpareS at h
  split at h
  · simp only [Option.some.injEq, Prod.mk.injEq] at h
    obtain ⟨rfl, rfl, rfl⟩ := h
    obtain ⟨h0, h1, _⟩ := ho
    exact Den.sim (laws_eqSpareS_den _ _ ) (simOL_cons (wL_sim h0).1 <| simOL_cons (wL_sim h1).1 <| trivial) (noIdL_cons (wL_sim h0).2 <| noIdL_cons (wL_sim h1).2 <| rfl) rfl
  · cases h
end Go.Ab

namespace Go.Ab
open Go Go.Proofs
theorem laws_eqSpare_dec (a b : Spare) : laws_eqSpare a b = decide (a = b) := by
  unfold laws_eqSpare
  by_cases h : a = b
  · subst h; simp
  · rw [decide_eq_false h]
    cases a; cases b
    simp only [Spare.mk.injEq] at h
    simp only [bne_iff_ne, Bool.cond_eq_ite, ite_eq_right_iff]
    (repeat' split) <;> simp_all
theorem laws_eqSpareS_dec (a b : List Spare) : laws_eqSpareS a b = decide (a = b) := by
  unfold laws_eqSpareS
  by_cases hl : a.length = b.length
  · have h1 : ((a.length : Int) != (b.length : Int)) = false := by simp [hl]
    rw [h1, cond_false, loopR_any (b := laws_eqSpareS_b1 a b) (fun j => !decide (a.getD j default = b.getD j default)) false (fun j u _ _ => by simp only [laws_eqSpareS_b1, laws_eqSpare_dec])]
    simp only [Nat.sub_zero, Nat.zero_add]
    rw [any_ne a b hl]
    by_cases h : a = b <;> simp [h]
  · have h1 : ((a.length : Int) != (b.length : Int)) = true := by simp; omega
    have h2 : ¬ a = b := fun e => hl (by rw [e])
    rw [h1, cond_true, decide_eq_false h2]
end Go.Ab

namespace Go.Ab
open Go Go.Proofs
theorem laws_eqEntry_DD : DOk Try.prog (DD []) := DD_nil _
def laws_eqEntry (a0 : Entry) (a1 : Entry) : Bool :=
  (bif (a0.Day != a1.Day) then false else (bif (a0.Item != a1.Item) then false else (bif (a0.Amount != a1.Amount) then false else true)))

theorem laws_eqEntry_den (a0 : Entry) (a1 : Entry)  : Den Try.prog 117 [.agg (eEntry a0), .agg (eEntry a1)] (.bool (laws_eqEntry a0 a1)) := by
  generalize hR : laws_eqEntry a0 a1 = r
  unfold laws_eqEntry at hR
  refine den_intro G_ok Try.func117 (by kernel_rfl) rfl Try.ntmps117 (by rw [Try.results117]) (by simp) rfl ?_
  intro c hL hc hk
  obtain ⟨hL0, hL1, _⟩ := hL
  have hw0 : bwEntry a0 := Entry_lens a0 hL0
  have hw1 : bwEntry a1 := Entry_lens a1 hL1
  clear hL0 hL1
  simp only [pars, Nat.zero_add]
  refine AWP.seq ?_
  refine AWP.regS G_ok laws_eqEntry_DD hc (by kernel_rfl) (fun K hK => ?_); simp only [ea, gv, sv, reduceCtorEq, reduceIte, Nat.reduceBEq, Nat.reduceAdd, Nat.reduceEqDiff, Nat.reduceLT, Nat.reduceLeDiff, Nat.reduceMul, Nat.reduceSub, BEq.rfl, beq_self_eq_true, Int.reduceToNat]
  first | refine hK _ ?_ | refine ⟨by (first | trivial | omega | (simp only [ob, ln, bdv, sv] at *; omega) | ((try clear hK K); (repeat' first | apply And.intro | intro _) <;> first | trivial | omega | assumption | solve_by_elim | (apply bd_getD <;> first | assumption | decide) | (apply bd_subL <;> first | assumption | decide) | (simp only [ob, ln, bdv, sv] at *; first | omega | assumption | (simp_all; done) | grind))), hK _ ?_⟩
  clear hK K
  refine AWP.seq ?_
  refine AWP.seq ?_
  refine AWP.regS G_ok laws_eqEntry_DD hc (by kernel_rfl) (fun K hK => ?_); simp only [ea, gv, sv, reduceCtorEq, reduceIte, Nat.reduceBEq, Nat.reduceAdd, Nat.reduceEqDiff, Nat.reduceLT, Nat.reduceLeDiff, Nat.reduceMul, Nat.reduceSub, BEq.rfl, beq_self_eq_true, Int.reduceToNat]
  first | refine hK _ ?_ | refine ⟨by (first | trivial | omega | (simp only [ob, ln, bdv, sv] at *; omega) | ((try clear hK K); (repeat' first | apply And.intro | intro _) <;> first | trivial | omega | assumption | solve_by_elim | (apply bd_getD <;> first | assumption | decide) | (apply bd_subL <;> first | assumption | decide) | (simp only [ob, ln, bdv, sv] at *; first | omega | assumption | (simp_all; done) | grind))), hK _ ?_⟩
  clear hK K
  refine AWP.cond rfl (fun hb => ?_) (fun hb => ?_)
  · first | simp only [hb, cond_true] at hR | (simp only [*] at hb; simp only [hb, cond_true] at hR)
    refine AWP.seq ?_
    refine AWP.regS G_ok laws_eqEntry_DD hc (by kernel_rfl) (fun K hK => ?_); simp only [ea, gv, sv, reduceCtorEq, reduceIte, Nat.reduceBEq, Nat.reduceAdd, Nat.reduceEqDiff, Nat.reduceLT, Nat.reduceLeDiff, Nat.reduceMul, Nat.reduceSub, BEq.rfl, beq_self_eq_true, Int.reduceToNat]
    first | refine hK _ ?_ | refine ⟨by (first | trivial | omega | (simp only [ob, ln, bdv, sv] at *; omega) | ((try clear hK K); (repeat' first | apply And.intro | intro _) <;> first | trivial | omega | assumption | solve_by_elim | (apply bd_getD <;> first | assumption | decide) | (apply bd_subL <;> first | assumption | decide) | (simp only [ob, ln, bdv, sv] at *; first | omega | assumption | (simp_all; done) | grind))), hK _ ?_⟩
    clear hK K
    refine AWP.ret ?_
    subst hR
    (simp only [en, si, ea, gv, sv, hk, reduceCtorEq, reduceIte, Nat.reduceBEq, Nat.reduceAdd, Nat.reduceEqDiff, Nat.reduceLT, Nat.reduceLeDiff, Nat.reduceMul, Nat.reduceSub, BEq.rfl, beq_self_eq_true, Int.reduceToNat]; first | done | trivial | (and_intros <;> first | rfl | trivial | omega | (rw [IntKind.wrap_i64]; omega) | (simp only [ln]; done) | (simp only [ob, ln, bdv, sv] at *; first | omega | grind) | (left; intro j hj; simp only [pw, Bool.cond_eq_ite, Bool.and_eq_true, decide_eq_true_eq]; (repeat' split) <;> simp [putL, NoBorL, NoBor]) | (intro j hj; simp only [pw, Bool.cond_eq_ite, Bool.and_eq_true, decide_eq_true_eq]; (try rw [subL_getD _ _ _ _ (by first | assumption | omega)]); (try rw [clearL_getD _ _ _ _ (by first | omega | (simp only [ob, ln, bdv] at *; omega))]); (repeat' split) <;> first | rfl | omega | exact simOL_refl _ | (simp_all; done) | (simp_all; rfl) | (simp_all; omega) | (simp_all; exact simOL_refl _) | (simp [putL, NoBorL, NoBor]; done))))
  · first | simp only [hb, cond_false] at hR | (simp only [*] at hb; simp only [hb, cond_false] at hR)
    refine AWP.skip ?_
    refine AWP.seq ?_
    refine AWP.seq ?_
    refine AWP.regS G_ok laws_eqEntry_DD hc (by kernel_rfl) (fun K hK => ?_); simp only [ea, gv, sv, reduceCtorEq, reduceIte, Nat.reduceBEq, Nat.reduceAdd, Nat.reduceEqDiff, Nat.reduceLT, Nat.reduceLeDiff, Nat.reduceMul, Nat.reduceSub, BEq.rfl, beq_self_eq_true, Int.reduceToNat]
    first | refine hK _ ?_ | refine ⟨by (first | trivial | omega | (simp only [ob, ln, bdv, sv] at *; omega) | ((try clear hK K); (repeat' first | apply And.intro | intro _) <;> first | trivial | omega | assumption | solve_by_elim | (apply bd_getD <;> first | assumption | decide) | (apply bd_subL <;> first | assumption | decide) | (simp only [ob, ln, bdv, sv] at *; first | omega | assumption | (simp_all; done) | grind))), hK _ ?_⟩
    clear hK K
    refine AWP.cond rfl (fun hb => ?_) (fun hb => ?_)
    · first | simp only [hb, cond_true] at hR | (simp only [*] at hb; simp only [hb, cond_true] at hR)
      refine AWP.seq ?_
      refine AWP.regS G_ok laws_eqEntry_DD hc (by kernel_rfl) (fun K hK => ?_); simp only [ea, gv, sv, reduceCtorEq, reduceIte, Nat.reduceBEq, Nat.reduceAdd, Nat.reduceEqDiff, Nat.reduceLT, Nat.reduceLeDiff, Nat.reduceMul, Nat.reduceSub, BEq.rfl, beq_self_eq_true, Int.reduceToNat]
      first | refine hK _ ?_ | refine ⟨by (first | trivial | omega | (simp only [ob, ln, bdv, sv] at *; omega) | ((try clear hK K); (repeat' first | apply And.intro | intro _) <;> first | trivial | omega | assumption | solve_by_elim | (apply bd_getD <;> first | assumption | decide) | (apply bd_subL <;> first | assumption | decide) | (simp only [ob, ln, bdv, sv] at *; first | omega | assumption | (simp_all; done) | grind))), hK _ ?_⟩
      clear hK K
      refine AWP.ret ?_
      subst hR
      (simp only [en, si, ea, gv, sv, hk, reduceCtorEq, reduceIte, Nat.reduceBEq, Nat.reduceAdd, Nat.reduceEqDiff, Nat.reduceLT, Nat.reduceLeDiff, Nat.reduceMul, Nat.reduceSub, BEq.rfl, beq_self_eq_true, Int.reduceToNat]; first | done | trivial | (and_intros <;> first | rfl | trivial | omega | (rw [IntKind.wrap_i64]; omega) | (simp only [ln]; done) | (simp only [ob, ln, bdv, sv] at *; first | omega | grind) | (left; intro j hj; simp only [pw, Bool.cond_eq_ite, Bool.and_eq_true, decide_eq_true_eq]; (repeat' split) <;> simp [putL, NoBorL, NoBor]) | (intro j hj; simp only [pw, Bool.cond_eq_ite, Bool.and_eq_true, decide_eq_true_eq]; (try rw [subL_getD _ _ _ _ (by first | assumption | omega)]); (try rw [clearL_getD _ _ _ _ (by first | omega | (simp only [ob, ln, bdv] at *; omega))]); (repeat' split) <;> first | rfl | omega | exact simOL_refl _ | (simp_all; done) | (simp_all; rfl) | (simp_all; omega) | (simp_all; exact simOL_refl _) | (simp [putL, NoBorL, NoBor]; done))))
    · first | simp only [hb, cond_false] at hR | (simp only [*] at hb; simp only [hb, cond_false] at hR)
      refine AWP.skip ?_
      refine AWP.seq ?_
      refine AWP.seq ?_
      refine AWP.regS G_ok laws_eqEntry_DD hc (by kernel_rfl) (fun K hK => ?_); simp only [ea, gv, sv, reduceCtorEq, reduceIte, Nat.reduceBEq, Nat.reduceAdd, Nat.reduceEqDiff, Nat.reduceLT, Nat.reduceLeDiff, Nat.reduceMul, Nat.reduceSub, BEq.rfl, beq_self_eq_true, Int.reduceToNat]
      first | refine hK _ ?_ | refine ⟨by (first | trivial | omega | (simp only [ob, ln, bdv, sv] at *; omega) | ((try clear hK K); (repeat' first | apply And.intro | intro _) <;> first | trivial | omega | assumption | solve_by_elim | (apply bd_getD <;> first | assumption | decide) | (apply bd_subL <;> first | assumption | decide) | (simp only [ob, ln, bdv, sv] at *; first | omega | assumption | (simp_all; done) | grind))), hK _ ?_⟩
      clear hK K
      refine AWP.cond rfl (fun hb => ?_) (fun hb => ?_)
      · first | simp only [hb, cond_true] at hR | (simp only [*] at hb; simp only [hb, cond_true] at hR)
        refine AWP.seq ?_
        refine AWP.regS G_ok laws_eqEntry_DD hc (by kernel_rfl) (fun K hK => ?_); simp only [ea, gv, sv, reduceCtorEq, reduceIte, Nat.reduceBEq, Nat.reduceAdd, Nat.reduceEqDiff, Nat.reduceLT, Nat.reduceLeDiff, Nat.reduceMul, Nat.reduceSub, BEq.rfl, beq_self_eq_true, Int.reduceToNat]
        first | refine hK _ ?_ | refine ⟨by (first | trivial | omega | (simp only [ob, ln, bdv, sv] at *; omega) | ((try clear hK K); (repeat' first | apply And.intro | intro _) <;> first | trivial | omega | assumption | solve_by_elim | (apply bd_getD <;> first | assumption | decide) | (apply bd_subL <;> first | assumption | decide) | (simp only [ob, ln, bdv, sv] at *; first | omega | assumption | (simp_all; done) | grind))), hK _ ?_⟩
        clear hK K
        refine AWP.ret ?_
        subst hR
        (simp only [en, si, ea, gv, sv, hk, reduceCtorEq, reduceIte, Nat.reduceBEq, Nat.reduceAdd, Nat.reduceEqDiff, Nat.reduceLT, Nat.reduceLeDiff, Nat.reduceMul, Nat.reduceSub, BEq.rfl, beq_self_eq_true, Int.reduceToNat]; first | done | trivial | (and_intros <;> first | rfl | trivial | omega | (rw [IntKind.wrap_i64]; omega) | (simp only [ln]; done) | (simp only [ob, ln, bdv, sv] at *; first | omega | grind) | (left; intro j hj; simp only [pw, Bool.cond_eq_ite, Bool.and_eq_true, decide_eq_true_eq]; (repeat' split) <;> simp [putL, NoBorL, NoBor]) | (intro j hj; simp only [pw, Bool.cond_eq_ite, Bool.and_eq_true, decide_eq_true_eq]; (try rw [subL_getD _ _ _ _ (by first | assumption | omega)]); (try rw [clearL_getD _ _ _ _ (by first | omega | (simp only [ob, ln, bdv] at *; omega))]); (repeat' split) <;> first | rfl | omega | exact simOL_refl _ | (simp_all; done) | (simp_all; rfl) | (simp_all; omega) | (simp_all; exact simOL_refl _) | (simp [putL, NoBorL, NoBor]; done))))
      · first | simp only [hb, cond_false] at hR | (simp only [*] at hb; simp only [hb, cond_false] at hR)
        refine AWP.skip ?_
        refine AWP.seq ?_
        refine AWP.regS G_ok laws_eqEntry_DD hc (by kernel_rfl) (fun K hK => ?_); simp only [ea, gv, sv, reduceCtorEq, reduceIte, Nat.reduceBEq, Nat.reduceAdd, Nat.reduceEqDiff, Nat.reduceLT, Nat.reduceLeDiff, Nat.reduceMul, Nat.reduceSub, BEq.rfl, beq_self_eq_true, Int.reduceToNat]
        first | refine hK _ ?_ | refine ⟨by (first | trivial | omega | (simp only [ob, ln, bdv, sv] at *; omega) | ((try clear hK K); (repeat' first | apply And.intro | intro _) <;> first | trivial | omega | assumption | solve_by_elim | (apply bd_getD <;> first | assumption | decide) | (apply bd_subL <;> first | assumption | decide) | (simp only [ob, ln, bdv, sv] at *; first | omega | assumption | (simp_all; done) | grind))), hK _ ?_⟩
        clear hK K
        refine AWP.ret ?_
        subst hR
        (simp only [en, si, ea, gv, sv, hk, reduceCtorEq, reduceIte, Nat.reduceBEq, Nat.reduceAdd, Nat.reduceEqDiff, Nat.reduceLT, Nat.reduceLeDiff, Nat.reduceMul, Nat.reduceSub, BEq.rfl, beq_self_eq_true, Int.reduceToNat]; first | done | trivial | (and_intros <;> first | rfl | trivial | omega | (rw [IntKind.wrap_i64]; omega) | (simp only [ln]; done) | (simp only [ob, ln, bdv, sv] at *; first | omega | grind) | (left; intro j hj; simp only [pw, Bool.cond_eq_ite, Bool.and_eq_true, decide_eq_true_eq]; (repeat' split) <;> simp [putL, NoBorL, NoBor]) | (intro j hj; simp only [pw, Bool.cond_eq_ite, Bool.and_eq_true, decide_eq_true_eq]; (try rw [subL_getD _ _ _ _ (by first | assumption | omega)]); (try rw [clearL_getD _ _ _ _ (by first | omega | (simp only [ob, ln, bdv] at *; omega))]); (repeat' split) <;> first | rfl | omega | exact simOL_refl _ | (simp_all; done) | (simp_all; rfl) | (simp_all; omega) | (simp_all; exact simOL_refl _) | (simp [putL, NoBorL, NoBor]; done))))

def D_laws_eqEntry : DF
  | [x0, x1] => some (.bool (laws_eqEntry (rdG dEntry x0) (rdG dEntry x1)), false, [wG eEntry dEntry x0, wG eEntry dEntry x1])
  | _ => none
theorem D_laws_eqEntry_ok : OkD Try.prog 117 D_laws_eqEntry := by
  intro xs r z ob h ho
  unfold D_laws_eqEntry at h
  split at h
  · simp only [Option.some.injEq, Prod.mk.injEq] at h
    obtain ⟨rfl, rfl, rfl⟩ := h
    obtain ⟨h0, h1, _⟩ := ho
    exact Den.sim (laws_eqEntry_den _ _ ) (simOL_cons (wG_sim h0).1 <| simOL_cons (wG_sim h1).1 <| trivial) (noIdL_cons (wG_sim h0).2 <| noIdL_cons (wG_sim h1).2 <| rfl) rfl
  · cases h
end Go.Ab

namespace Go.Ab
open Go Go.Proofs
theorem laws_eqEntryS_DD : DOk Try.prog (DD [(117, dP D_laws_eqEntry)]) := DD_cons D_laws_eqEntry_ok.e <| DD_nil _
def laws_eqEntryS_b1 (a0 : (List Entry)) (a1 : (List Entry)) (i1 : Nat) (s1 : Unit) : Except (Bool) (Unit) :=
  (bif (!(laws_eqEntry (a0.getD i1 default) (a1.getD i1 default))) then .error false else .ok ())

def laws_eqEntryS (a0 : (List Entry)) (a1 : (List Entry)) : Bool :=
  (bif ((a0.length : Int) != (a1.length : Int)) then false else (match loopR (laws_eqEntryS_b1 a0 a1) (a0.length - 0) 0 () with | .error e => e | .ok s1 => true))

theorem laws_eqEntryS_den (a0 : (List Entry)) (a1 : (List Entry))  : Den Try.prog 74 [encL 3 eEntry a0, encL 3 eEntry a1] (.bool (laws_eqEntryS a0 a1)) := by
  generalize hR : laws_eqEntryS a0 a1 = r
  unfold laws_eqEntryS at hR
  refine den_intro G_ok Try.func74 (by kernel_rfl) rfl Try.ntmps74 (by rw [Try.results74]) (by simp) rfl ?_
  intro c hL hc hk
  obtain ⟨hL0, hL1, _⟩ := hL
  have hw0 : a0.length < 9223372036854775808 := Nat.lt_succ_of_le (lens_encL hL0).1
  have hw1 : ∀ v ∈ a0, bwEntry v := fun v hv => Entry_lens v ((lens_encL hL0).2 v hv)
  have hw2 : a1.length < 9223372036854775808 := Nat.lt_succ_of_le (lens_encL hL1).1
  have hw3 : ∀ v ∈ a1, bwEntry v := fun v hv => Entry_lens v ((lens_encL hL1).2 v hv)
  clear hL0 hL1
  simp only [pars, Nat.zero_add]
  refine AWP.seq ?_
  refine AWP.regS G_ok laws_eqEntryS_DD hc (by kernel_rfl) (fun K hK => ?_); simp only [ea, gv, sv, D_laws_eqEntry, reduceCtorEq, reduceIte, Nat.reduceBEq, Nat.reduceAdd, Nat.reduceEqDiff, Nat.reduceLT, Nat.reduceLeDiff, Nat.reduceMul, Nat.reduceSub, BEq.rfl, beq_self_eq_true, Int.reduceToNat]
  first | refine hK _ ?_ | refine ⟨by (first | trivial | omega | (simp only [ob, ln, bdv, sv] at *; omega) | ((try clear hK K); (repeat' first | apply And.intro | intro _) <;> first | trivial | omega | assumption | solve_by_elim | (apply bd_getD <;> first | assumption | decide) | (apply bd_subL <;> first | assumption | decide) | (simp only [ob, ln, bdv, sv] at *; first | omega | assumption | (simp_all; done) | grind))), hK _ ?_⟩
  clear hK K
  refine AWP.seq ?_
  refine AWP.seq ?_
  refine AWP.regS G_ok laws_eqEntryS_DD hc (by kernel_rfl) (fun K hK => ?_); simp only [ea, gv, sv, D_laws_eqEntry, reduceCtorEq, reduceIte, Nat.reduceBEq, Nat.reduceAdd, Nat.reduceEqDiff, Nat.reduceLT, Nat.reduceLeDiff, Nat.reduceMul, Nat.reduceSub, BEq.rfl, beq_self_eq_true, Int.reduceToNat]
  first | refine hK _ ?_ | refine ⟨by (first | trivial | omega | (simp only [ob, ln, bdv, sv] at *; omega) | ((try clear hK K); (repeat' first | apply And.intro | intro _) <;> first | trivial | omega | assumption | solve_by_elim | (apply bd_getD <;> first | assumption | decide) | (apply bd_subL <;> first | assumption | decide) | (simp only [ob, ln, bdv, sv] at *; first | omega | assumption | (simp_all; done) | grind))), hK _ ?_⟩
  clear hK K
  refine AWP.cond rfl (fun hb => ?_) (fun hb => ?_)
  · first | simp only [hb, cond_true] at hR | (simp only [*] at hb; simp only [hb, cond_true] at hR)
    refine AWP.seq ?_
    refine AWP.regS G_ok laws_eqEntryS_DD hc (by kernel_rfl) (fun K hK => ?_); simp only [ea, gv, sv, D_laws_eqEntry, reduceCtorEq, reduceIte, Nat.reduceBEq, Nat.reduceAdd, Nat.reduceEqDiff, Nat.reduceLT, Nat.reduceLeDiff, Nat.reduceMul, Nat.reduceSub, BEq.rfl, beq_self_eq_true, Int.reduceToNat]
    first | refine hK _ ?_ | refine ⟨by (first | trivial | omega | (simp only [ob, ln, bdv, sv] at *; omega) | ((try clear hK K); (repeat' first | apply And.intro | intro _) <;> first | trivial | omega | assumption | solve_by_elim | (apply bd_getD <;> first | assumption | decide) | (apply bd_subL <;> first | assumption | decide) | (simp only [ob, ln, bdv, sv] at *; first | omega | assumption | (simp_all; done) | grind))), hK _ ?_⟩
    clear hK K
    refine AWP.ret ?_
    subst hR
    (simp only [en, si, ea, gv, sv, hk, reduceCtorEq, reduceIte, Nat.reduceBEq, Nat.reduceAdd, Nat.reduceEqDiff, Nat.reduceLT, Nat.reduceLeDiff, Nat.reduceMul, Nat.reduceSub, BEq.rfl, beq_self_eq_true, Int.reduceToNat]; first | done | trivial | (and_intros <;> first | rfl | trivial | omega | (rw [IntKind.wrap_i64]; omega) | (simp only [ln]; done) | (simp only [ob, ln, bdv, sv] at *; first | omega | grind) | (left; intro j hj; simp only [pw, Bool.cond_eq_ite, Bool.and_eq_true, decide_eq_true_eq]; (repeat' split) <;> simp [putL, NoBorL, NoBor]) | (intro j hj; simp only [pw, Bool.cond_eq_ite, Bool.and_eq_true, decide_eq_true_eq]; (try rw [subL_getD _ _ _ _ (by first | assumption | omega)]); (try rw [clearL_getD _ _ _ _ (by first | omega | (simp only [ob, ln, bdv] at *; omega))]); (repeat' split) <;> first | rfl | omega | exact simOL_refl _ | (simp_all; done) | (simp_all; rfl) | (simp_all; omega) | (simp_all; exact simOL_refl _) | (simp [putL, NoBorL, NoBor]; done))))
  · first | simp only [hb, cond_false] at hR | (simp only [*] at hb; simp only [hb, cond_false] at hR)
    refine AWP.skip ?_
    refine AWP.seq ?_
    refine AWP.seq ?_
    refine AWP.regS G_ok laws_eqEntryS_DD hc (by kernel_rfl) (fun K hK => ?_); simp only [ea, gv, sv, D_laws_eqEntry, reduceCtorEq, reduceIte, Nat.reduceBEq, Nat.reduceAdd, Nat.reduceEqDiff, Nat.reduceLT, Nat.reduceLeDiff, Nat.reduceMul, Nat.reduceSub, BEq.rfl, beq_self_eq_true, Int.reduceToNat]
    first | refine hK _ ?_ | refine ⟨by (first | trivial | omega | (simp only [ob, ln, bdv, sv] at *; omega) | ((try clear hK K); (repeat' first | apply And.intro | intro _) <;> first | trivial | omega | assumption | solve_by_elim | (apply bd_getD <;> first | assumption | decide) | (apply bd_subL <;> first | assumption | decide) | (simp only [ob, ln, bdv, sv] at *; first | omega | assumption | (simp_all; done) | grind))), hK _ ?_⟩
    clear hK K
    refine AWP.block ?_
    generalize hz1 : loopR (laws_eqEntryS_b1 a0 a1) (a0.length - 0) 0 () = z1 at hR
    refine AWP.range (laws_eqEntryS_b1 a0 a1) (fun i1 s1 => ⟨[(0, encL 3 eEntry a0), (1, encL 3 eEntry a1), (5, .int .i64 (i1 : Int))], []⟩) (fun i1 s1 => True) (a0.length) 0 () [] hz1 (by (first | trivial | omega | (simp only [ob, ln, bdv, sv] at *; omega) | ((try clear hK K); (repeat' first | apply And.intro | intro _) <;> first | trivial | omega | assumption | solve_by_elim | (apply bd_getD <;> first | assumption | decide) | (apply bd_subL <;> first | assumption | decide) | (simp only [ob, ln, bdv, sv] at *; first | omega | assumption | (simp_all; done) | grind)))) (by (first | trivial | (and_intros <;> simp only [ln] <;> omega) | (and_intros <;> simp only [ob, ln] at * <;> omega) | (and_intros <;> first | trivial | omega | assumption | (apply bd_set <;> first | assumption | (apply bd_getD <;> first | assumption | decide)) | (apply bd_app <;> first | assumption | (apply bd_getD <;> first | assumption | decide)) | (simp only [ob, ln, bdv, sv] at *; omega) | (simp; done)))) (by (simp only [si, ea, gv, sv, hk, reduceCtorEq, reduceIte, Nat.reduceBEq, Nat.reduceAdd, Nat.reduceEqDiff, Nat.reduceLT, Nat.reduceLeDiff, Nat.reduceMul, Nat.reduceSub, BEq.rfl, beq_self_eq_true, Int.reduceToNat]; first | done | trivial | (and_intros <;> first | rfl | trivial | omega | (rw [IntKind.wrap_i64]; omega) | (simp only [ln]; done) | (simp only [ob, ln, bdv, sv] at *; first | omega | grind) | (left; intro j hj; simp only [pw, Bool.cond_eq_ite, Bool.and_eq_true, decide_eq_true_eq]; (repeat' split) <;> simp [putL, NoBorL, NoBor]) | (intro j hj; simp only [pw, Bool.cond_eq_ite, Bool.and_eq_true, decide_eq_true_eq]; (try rw [subL_getD _ _ _ _ (by first | assumption | omega)]); (try rw [clearL_getD _ _ _ _ (by first | omega | (simp only [ob, ln, bdv] at *; omega))]); (repeat' split) <;> first | rfl | omega | exact simOL_refl _ | (simp_all; done) | (simp_all; rfl) | (simp_all; omega) | (simp_all; exact simOL_refl _) | (simp [putL, NoBorL, NoBor]; done))))) ?_
    clear hz1
    intro i1 s1 hi1 hW1 hz1
    refine AWP.seq ?_
    refine AWP.seq ?_
    refine AWP.regS G_ok laws_eqEntryS_DD hc (by kernel_rfl) (fun K hK => ?_); simp only [ea, gv, sv, D_laws_eqEntry, reduceCtorEq, reduceIte, Nat.reduceBEq, Nat.reduceAdd, Nat.reduceEqDiff, Nat.reduceLT, Nat.reduceLeDiff, Nat.reduceMul, Nat.reduceSub, BEq.rfl, beq_self_eq_true, Int.reduceToNat]
    first | refine hK _ ?_ | refine ⟨by (first | trivial | omega | (simp only [ob, ln, bdv, sv] at *; omega) | ((try clear hK K); (repeat' first | apply And.intro | intro _) <;> first | trivial | omega | assumption | solve_by_elim | (apply bd_getD <;> first | assumption | decide) | (apply bd_subL <;> first | assumption | decide) | (simp only [ob, ln, bdv, sv] at *; first | omega | assumption | (simp_all; done) | grind))), hK _ ?_⟩
    clear hK K
    refine AWP.cond rfl (fun hb => ?_) (fun hb => ?_)
    · have hlt1 : i1 < a0.length := by (first | trivial | omega | (simp only [ob, ln, bdv, sv] at *; omega) | ((try clear hK K); (repeat' first | apply And.intro | intro _) <;> first | trivial | omega | assumption | solve_by_elim | (apply bd_getD <;> first | assumption | decide) | (apply bd_subL <;> first | assumption | decide) | (simp only [ob, ln, bdv, sv] at *; first | omega | assumption | (simp_all; done) | grind)))
      rw [loopR_lt hlt1] at hz1; simp only [laws_eqEntryS_b1] at hz1
      refine AWP.skip ?_
      refine AWP.seq ?_
      refine AWP.block ?_
      refine AWP.seq ?_
      refine AWP.regD mixed G_ok laws_eqEntryS_DD hc 8 (by kernel_rfl) (by kernel_rfl) (fun K hK => ?_); simp only [ea, gv, sv, D_laws_eqEntry, reduceCtorEq, reduceIte, Nat.reduceBEq, Nat.reduceAdd, Nat.reduceEqDiff, Nat.reduceLT, Nat.reduceLeDiff, Nat.reduceMul, Nat.reduceSub, BEq.rfl, beq_self_eq_true, Int.reduceToNat]
      first | refine hK _ ?_ | refine ⟨by (first | trivial | omega | (simp only [ob, ln, bdv, sv] at *; omega) | ((try clear hK K); (repeat' first | apply And.intro | intro _) <;> first | trivial | omega | assumption | solve_by_elim | (apply bd_getD <;> first | assumption | decide) | (apply bd_subL <;> first | assumption | decide) | (simp only [ob, ln, bdv, sv] at *; first | omega | assumption | (simp_all; done) | grind))), hK _ ?_⟩
      clear hK K
      refine AWP.cond rfl (fun hb => ?_) (fun hb => ?_)
      · first | simp only [hb, cond_true] at hz1 | (simp only [*] at hb; simp only [hb, cond_true] at hz1)
        refine AWP.seq ?_
        refine AWP.regS G_ok laws_eqEntryS_DD hc (by kernel_rfl) (fun K hK => ?_); simp only [ea, gv, sv, D_laws_eqEntry, reduceCtorEq, reduceIte, Nat.reduceBEq, Nat.reduceAdd, Nat.reduceEqDiff, Nat.reduceLT, Nat.reduceLeDiff, Nat.reduceMul, Nat.reduceSub, BEq.rfl, beq_self_eq_true, Int.reduceToNat]
        first | refine hK _ ?_ | refine ⟨by (first | trivial | omega | (simp only [ob, ln, bdv, sv] at *; omega) | ((try clear hK K); (repeat' first | apply And.intro | intro _) <;> first | trivial | omega | assumption | solve_by_elim | (apply bd_getD <;> first | assumption | decide) | (apply bd_subL <;> first | assumption | decide) | (simp only [ob, ln, bdv, sv] at *; first | omega | assumption | (simp_all; done) | grind))), hK _ ?_⟩
        clear hK K
        refine AWP.ret ?_
        subst hz1
        dsimp only at hR
        subst hR
        (simp only [en, si, ea, gv, sv, hk, reduceCtorEq, reduceIte, Nat.reduceBEq, Nat.reduceAdd, Nat.reduceEqDiff, Nat.reduceLT, Nat.reduceLeDiff, Nat.reduceMul, Nat.reduceSub, BEq.rfl, beq_self_eq_true, Int.reduceToNat]; first | done | trivial | (and_intros <;> first | rfl | trivial | omega | (rw [IntKind.wrap_i64]; omega) | (simp only [ln]; done) | (simp only [ob, ln, bdv, sv] at *; first | omega | grind) | (left; intro j hj; simp only [pw, Bool.cond_eq_ite, Bool.and_eq_true, decide_eq_true_eq]; (repeat' split) <;> simp [putL, NoBorL, NoBor]) | (intro j hj; simp only [pw, Bool.cond_eq_ite, Bool.and_eq_true, decide_eq_true_eq]; (try rw [subL_getD _ _ _ _ (by first | assumption | omega)]); (try rw [clearL_getD _ _ _ _ (by first | omega | (simp only [ob, ln, bdv] at *; omega))]); (repeat' split) <;> first | rfl | omega | exact simOL_refl _ | (simp_all; done) | (simp_all; rfl) | (simp_all; omega) | (simp_all; exact simOL_refl _) | (simp [putL, NoBorL, NoBor]; done))))
      · first | simp only [hb, cond_false] at hz1 | (simp only [*] at hb; simp only [hb, cond_false] at hz1)
        refine AWP.skip ?_
        refine AWP.regS G_ok laws_eqEntryS_DD hc (by kernel_rfl) (fun K hK => ?_); simp only [ea, gv, sv, D_laws_eqEntry, reduceCtorEq, reduceIte, Nat.reduceBEq, Nat.reduceAdd, Nat.reduceEqDiff, Nat.reduceLT, Nat.reduceLeDiff, Nat.reduceMul, Nat.reduceSub, BEq.rfl, beq_self_eq_true, Int.reduceToNat]
        first | refine hK _ ?_ | refine ⟨by (first | trivial | omega | (simp only [ob, ln, bdv, sv] at *; omega) | ((try clear hK K); (repeat' first | apply And.intro | intro _) <;> first | trivial | omega | assumption | solve_by_elim | (apply bd_getD <;> first | assumption | decide) | (apply bd_subL <;> first | assumption | decide) | (simp only [ob, ln, bdv, sv] at *; first | omega | assumption | (simp_all; done) | grind))), hK _ ?_⟩
        clear hK K
        exact ⟨_, [], hlt1, by (first | trivial | (and_intros <;> simp only [ln] <;> omega) | (and_intros <;> simp only [ob, ln] at * <;> omega) | (and_intros <;> first | trivial | omega | assumption | (apply bd_set <;> first | assumption | (apply bd_getD <;> first | assumption | decide)) | (apply bd_app <;> first | assumption | (apply bd_getD <;> first | assumption | decide)) | (simp only [ob, ln, bdv, sv] at *; omega) | (simp; done))), hz1, by (simp only [si, ea, gv, sv, hk, reduceCtorEq, reduceIte, Nat.reduceBEq, Nat.reduceAdd, Nat.reduceEqDiff, Nat.reduceLT, Nat.reduceLeDiff, Nat.reduceMul, Nat.reduceSub, BEq.rfl, beq_self_eq_true, Int.reduceToNat]; first | done | trivial | (and_intros <;> first | rfl | trivial | omega | (rw [IntKind.wrap_i64]; omega) | (simp only [ln]; done) | (simp only [ob, ln, bdv, sv] at *; first | omega | grind) | (left; intro j hj; simp only [pw, Bool.cond_eq_ite, Bool.and_eq_true, decide_eq_true_eq]; (repeat' split) <;> simp [putL, NoBorL, NoBor]) | (intro j hj; simp only [pw, Bool.cond_eq_ite, Bool.and_eq_true, decide_eq_true_eq]; (try rw [subL_getD _ _ _ _ (by first | assumption | omega)]); (try rw [clearL_getD _ _ _ _ (by first | omega | (simp only [ob, ln, bdv] at *; omega))]); (repeat' split) <;> first | rfl | omega | exact simOL_refl _ | (simp_all; done) | (simp_all; rfl) | (simp_all; omega) | (simp_all; exact simOL_refl _) | (simp [putL, NoBorL, NoBor]; done))))⟩
    · obtain rfl : i1 = a0.length := by (first | trivial | omega | (simp only [ob, ln, bdv, sv] at *; omega) | ((try clear hK K); (repeat' first | apply And.intro | intro _) <;> first | trivial | omega | assumption | solve_by_elim | (apply bd_getD <;> first | assumption | decide) | (apply bd_subL <;> first | assumption | decide) | (simp only [ob, ln, bdv, sv] at *; first | omega | assumption | (simp_all; done) | grind)))
      rw [loopR_ge (Nat.le_refl _)] at hz1; subst hz1; dsimp only at hR
      refine AWP.exit ?_; refine exitTo_here ?_
      refine AWP.seq ?_
      refine AWP.regS G_ok laws_eqEntryS_DD hc (by kernel_rfl) (fun K hK => ?_); simp only [ea, gv, sv, D_laws_eqEntry, reduceCtorEq, reduceIte, Nat.reduceBEq, Nat.reduceAdd, Nat.reduceEqDiff, Nat.reduceLT, Nat.reduceLeDiff, Nat.reduceMul, Nat.reduceSub, BEq.rfl, beq_self_eq_true, Int.reduceToNat]
      first | refine hK _ ?_ | refine ⟨by (first | trivial | omega | (simp only [ob, ln, bdv, sv] at *; omega) | ((try clear hK K); (repeat' first | apply And.intro | intro _) <;> first | trivial | omega | assumption | solve_by_elim | (apply bd_getD <;> first | assumption | decide) | (apply bd_subL <;> first | assumption | decide) | (simp only [ob, ln, bdv, sv] at *; first | omega | assumption | (simp_all; done) | grind))), hK _ ?_⟩
      clear hK K
      refine AWP.ret ?_
      subst hR
      (simp only [en, si, ea, gv, sv, hk, reduceCtorEq, reduceIte, Nat.reduceBEq, Nat.reduceAdd, Nat.reduceEqDiff, Nat.reduceLT, Nat.reduceLeDiff, Nat.reduceMul, Nat.reduceSub, BEq.rfl, beq_self_eq_true, Int.reduceToNat]; first | done | trivial | (and_intros <;> first | rfl | trivial | omega | (rw [IntKind.wrap_i64]; omega) | (simp only [ln]; done) | (simp only [ob, ln, bdv, sv] at *; first | omega | grind) | (left; intro j hj; simp only [pw, Bool.cond_eq_ite, Bool.and_eq_true, decide_eq_true_eq]; (repeat' split) <;> simp [putL, NoBorL, NoBor]) | (intro j hj; simp only [pw, Bool.cond_eq_ite, Bool.and_eq_true, decide_eq_true_eq]; (try rw [subL_getD _ _ _ _ (by first | assumption | omega)]); (try rw [clearL_getD _ _ _ _ (by first | omega | (simp only [ob, ln, bdv] at *; omega))]); (repeat' split) <;> first | rfl | omega | exact simOL_refl _ | (simp_all; done) | (simp_all; rfl) | (simp_all; omega) | (simp_all; exact simOL_refl _) | (simp [putL, NoBorL, NoBor]; done))))

def D_laws_eqEntryS : DF
  | [x0, x1] => some (.bool (laws_eqEntryS (rdL dEntry x0) (rdL dEntry x1)), false, [wL 3 eEntry dEntry x0, wL 3 eEntry dEntry x1])
  | _ => none
theorem D_laws_eqEntryS_ok : OkD Try.prog 74 D_laws_eqEntryS := by
  intro xs r z ob h ho
  unfold D_laws_eqEntryS at h
  split at h
  · simp only [Option.some.injEq, Prod.mk.injEq] at h
    obtain ⟨rfl, rfl, rfl⟩ := h
    obtain ⟨h0, h1, _⟩ := ho
    exact Den.sim (laws_eqEntryS_den _ _ ) (simOL_cons (wL_sim h0).1 <| simOL_cons (wL_sim h1).1 <| trivial) (noIdL_cons (wL_sim h0).2 <| noIdL_cons (wL_sim h1).2 <| rfl) rfl
  · cases h
end Go.Ab

namespace Go.Ab
open Go Go.Proofs
theorem laws_eqEntry_dec (a b : Entry) : laws_eqEntry a b = decide (a = b) := by
  unfold laws_eqEntry
  by_cases h : a = b
  · subst h; simp
  · rw [decide_eq_false h]
    cases a; cases b
    simp only [Entry.mk.injEq] at h
    simp only [bne_iff_ne, Bool.cond_eq_ite, ite_eq_right_iff]
    (repeat' split) <;> simp_all
theorem laws_eqEntryS_dec (a b : List Entry) : laws_eqEntryS a b = decide (a = b) := by
  unfold laws_eqEntryS
  by_cases hl : a.length = b.length
  · have h1 : ((a.length : Int) != (b.length : Int)) = false := by simp [hl]
    rw [h1, cond_false, loopR_any (b := laws_eqEntryS_b1 a b) (fun j => !decide (a.getD j default = b.getD j default)) false (fun j u _ _ => by simp only [laws_eqEntryS_b1, laws_eqEntry_dec])]
    simp only [Nat.sub_zero, Nat.zero_add]
    rw [any_ne a b hl]
    by_cases h : a = b <;> simp [h]
  · have h1 : ((a.length : Int) != (b.length : Int)) = true := by simp; omega
    have h2 : ¬ a = b := fun e => hl (by rw [e])
    rw [h1, cond_true, decide_eq_false h2]
end Go.Ab

namespace Go.Ab
open Go Go.Proofs
theorem laws_toSpare_DD : DOk Try.prog (DD []) := DD_nil _
def laws_toSpare (a0 : Spare) : Spare :=
  { Name := a0.Name, Least := a0.Least, Most := a0.Most : Spare }

theorem laws_toSpare_den (a0 : Spare)  : Den Try.prog 114 [.agg (eSpare a0)] (.agg (eSpare (laws_toSpare a0))) := by
  generalize hR : laws_toSpare a0 = r
  unfold laws_toSpare at hR
  refine den_intro G_ok Try.func114 (by kernel_rfl) rfl Try.ntmps114 (by rw [Try.results114]) (by simp) rfl ?_
  intro c hL hc hk
  obtain ⟨hL0, _⟩ := hL
  have hw0 : bwSpare a0 := Spare_lens a0 hL0
  clear hL0
  simp only [pars, Nat.zero_add]
  refine AWP.seq ?_
  refine AWP.regS G_ok laws_toSpare_DD hc (by kernel_rfl) (fun K hK => ?_); simp only [ea, gv, sv, reduceCtorEq, reduceIte, Nat.reduceBEq, Nat.reduceAdd, Nat.reduceEqDiff, Nat.reduceLT, Nat.reduceLeDiff, Nat.reduceMul, Nat.reduceSub, BEq.rfl, beq_self_eq_true, Int.reduceToNat]
  first | refine hK _ ?_ | refine ⟨by (first | trivial | omega | (simp only [ob, ln, bdv, sv] at *; omega) | ((try clear hK K); (repeat' first | apply And.intro | intro _) <;> first | trivial | omega | assumption | solve_by_elim | (apply bd_getD <;> first | assumption | decide) | (apply bd_subL <;> first | assumption | decide) | (simp only [ob, ln, bdv, sv] at *; first | omega | assumption | (simp_all; done) | grind))), hK _ ?_⟩
  clear hK K
  refine AWP.seq ?_
  refine AWP.regS G_ok laws_toSpare_DD hc (by kernel_rfl) (fun K hK => ?_); simp only [ea, gv, sv, reduceCtorEq, reduceIte, Nat.reduceBEq, Nat.reduceAdd, Nat.reduceEqDiff, Nat.reduceLT, Nat.reduceLeDiff, Nat.reduceMul, Nat.reduceSub, BEq.rfl, beq_self_eq_true, Int.reduceToNat]
  first | refine hK _ ?_ | refine ⟨by (first | trivial | omega | (simp only [ob, ln, bdv, sv] at *; omega) | ((try clear hK K); (repeat' first | apply And.intro | intro _) <;> first | trivial | omega | assumption | solve_by_elim | (apply bd_getD <;> first | assumption | decide) | (apply bd_subL <;> first | assumption | decide) | (simp only [ob, ln, bdv, sv] at *; first | omega | assumption | (simp_all; done) | grind))), hK _ ?_⟩
  clear hK K
  refine AWP.seq ?_
  refine AWP.regS G_ok laws_toSpare_DD hc (by kernel_rfl) (fun K hK => ?_); simp only [ea, gv, sv, reduceCtorEq, reduceIte, Nat.reduceBEq, Nat.reduceAdd, Nat.reduceEqDiff, Nat.reduceLT, Nat.reduceLeDiff, Nat.reduceMul, Nat.reduceSub, BEq.rfl, beq_self_eq_true, Int.reduceToNat]
  first | refine hK _ ?_ | refine ⟨by (first | trivial | omega | (simp only [ob, ln, bdv, sv] at *; omega) | ((try clear hK K); (repeat' first | apply And.intro | intro _) <;> first | trivial | omega | assumption | solve_by_elim | (apply bd_getD <;> first | assumption | decide) | (apply bd_subL <;> first | assumption | decide) | (simp only [ob, ln, bdv, sv] at *; first | omega | assumption | (simp_all; done) | grind))), hK _ ?_⟩
  clear hK K
  refine AWP.seq ?_
  refine AWP.regS G_ok laws_toSpare_DD hc (by kernel_rfl) (fun K hK => ?_); simp only [ea, gv, sv, reduceCtorEq, reduceIte, Nat.reduceBEq, Nat.reduceAdd, Nat.reduceEqDiff, Nat.reduceLT, Nat.reduceLeDiff, Nat.reduceMul, Nat.reduceSub, BEq.rfl, beq_self_eq_true, Int.reduceToNat]
  first | refine hK _ ?_ | refine ⟨by (first | trivial | omega | (simp only [ob, ln, bdv, sv] at *; omega) | ((try clear hK K); (repeat' first | apply And.intro | intro _) <;> first | trivial | omega | assumption | solve_by_elim | (apply bd_getD <;> first | assumption | decide) | (apply bd_subL <;> first | assumption | decide) | (simp only [ob, ln, bdv, sv] at *; first | omega | assumption | (simp_all; done) | grind))), hK _ ?_⟩
  clear hK K
  refine AWP.seq ?_
  refine AWP.regS G_ok laws_toSpare_DD hc (by kernel_rfl) (fun K hK => ?_); simp only [ea, gv, sv, reduceCtorEq, reduceIte, Nat.reduceBEq, Nat.reduceAdd, Nat.reduceEqDiff, Nat.reduceLT, Nat.reduceLeDiff, Nat.reduceMul, Nat.reduceSub, BEq.rfl, beq_self_eq_true, Int.reduceToNat]
  first | refine hK _ ?_ | refine ⟨by (first | trivial | omega | (simp only [ob, ln, bdv, sv] at *; omega) | ((try clear hK K); (repeat' first | apply And.intro | intro _) <;> first | trivial | omega | assumption | solve_by_elim | (apply bd_getD <;> first | assumption | decide) | (apply bd_subL <;> first | assumption | decide) | (simp only [ob, ln, bdv, sv] at *; first | omega | assumption | (simp_all; done) | grind))), hK _ ?_⟩
  clear hK K
  refine AWP.seq ?_
  refine AWP.regS G_ok laws_toSpare_DD hc (by kernel_rfl) (fun K hK => ?_); simp only [ea, gv, sv, reduceCtorEq, reduceIte, Nat.reduceBEq, Nat.reduceAdd, Nat.reduceEqDiff, Nat.reduceLT, Nat.reduceLeDiff, Nat.reduceMul, Nat.reduceSub, BEq.rfl, beq_self_eq_true, Int.reduceToNat]
  first | refine hK _ ?_ | refine ⟨by (first | trivial | omega | (simp only [ob, ln, bdv, sv] at *; omega) | ((try clear hK K); (repeat' first | apply And.intro | intro _) <;> first | trivial | omega | assumption | solve_by_elim | (apply bd_getD <;> first | assumption | decide) | (apply bd_subL <;> first | assumption | decide) | (simp only [ob, ln, bdv, sv] at *; first | omega | assumption | (simp_all; done) | grind))), hK _ ?_⟩
  clear hK K
  refine AWP.ret ?_
  subst hR
  (simp only [en, si, ea, gv, sv, hk, reduceCtorEq, reduceIte, Nat.reduceBEq, Nat.reduceAdd, Nat.reduceEqDiff, Nat.reduceLT, Nat.reduceLeDiff, Nat.reduceMul, Nat.reduceSub, BEq.rfl, beq_self_eq_true, Int.reduceToNat]; first | done | trivial | (and_intros <;> first | rfl | trivial | omega | (rw [IntKind.wrap_i64]; omega) | (simp only [ln]; done) | (simp only [ob, ln, bdv, sv] at *; first | omega | grind) | (left; intro j hj; simp only [pw, Bool.cond_eq_ite, Bool.and_eq_true, decide_eq_true_eq]; (repeat' split) <;> simp [putL, NoBorL, NoBor]) | (intro j hj; simp only [pw, Bool.cond_eq_ite, Bool.and_eq_true, decide_eq_true_eq]; (try rw [subL_getD _ _ _ _ (by first | assumption | omega)]); (try rw [clearL_getD _ _ _ _ (by first | omega | (simp only [ob, ln, bdv] at *; omega))]); (repeat' split) <;> first | rfl | omega | exact simOL_refl _ | (simp_all; done) | (simp_all; rfl) | (simp_all; omega) | (simp_all; exact simOL_refl _) | (simp [putL, NoBorL, NoBor]; done))))

def D_laws_toSpare : DF
  | [x0] => some (.agg (eSpare (laws_toSpare (rdG dSpare x0))), false, [wG eSpare dSpare x0])
  | _ => none
theorem D_laws_toSpare_ok : OkD Try.prog 114 D_laws_toSpare := by
  intro xs r z ob h ho
  unfold D_laws_toSpare at h
  split at h
  · simp only [Option.some.injEq, Prod.mk.injEq] at h
    obtain ⟨rfl, rfl, rfl⟩ := h
    obtain ⟨h0, _⟩ := ho
    exact Den.sim (laws_toSpare_den _ ) (simOL_cons (wG_sim h0).1 <| trivial) (noIdL_cons (wG_sim h0).2 <| rfl) rfl
  · cases h
end Go.Ab

namespace Go.Ab
open Go Go.Proofs
theorem laws_toSpareS_DD : DOk Try.prog (DD [(114, dP D_laws_toSpare)]) := DD_cons D_laws_toSpare_ok.e <| DD_nil _
def laws_toSpareS_b1 (a0 : (List Spare)) (i1 : Nat) (s1 : List Spare) : Except ((List Spare)) (List Spare) :=
  .ok (s1.set i1 (laws_toSpare (a0.getD i1 default)))

def laws_toSpareS (a0 : (List Spare)) : (List Spare) :=
  (match loopR (laws_toSpareS_b1 a0) (a0.length - 0) 0 (List.replicate a0.length (default : Spare)) with | .error e => e | .ok s1 => s1)

theorem laws_toSpareS_den (a0 : (List Spare)) (hb0 : a0.length < 1099511627776) (hb1 : ∀ v ∈ a0, bdSpare v) : Den Try.prog 69 [encL 3 eSpare a0] (ownL 93 3 eSpare (laws_toSpareS a0)) := by
  generalize hR : laws_toSpareS a0 = r
  unfold laws_toSpareS at hR
  refine den_intro G_ok Try.func69 (by kernel_rfl) rfl Try.ntmps69 (by rw [Try.results69]) (by simp) rfl ?_
  intro c hL hc hk
  obtain ⟨hL0, _⟩ := hL
  have hw0 : a0.length < 9223372036854775808 := Nat.lt_succ_of_le (lens_encL hL0).1
  have hw1 : ∀ v ∈ a0, bwSpare v := fun v hv => Spare_lens v ((lens_encL hL0).2 v hv)
  clear hL0
  simp only [pars, Nat.zero_add]
  refine AWP.seq ?_
  refine AWP.regS G_ok laws_toSpareS_DD hc (by kernel_rfl) (fun K hK => ?_); simp only [ea, gv, sv, D_laws_toSpare, reduceCtorEq, reduceIte, Nat.reduceBEq, Nat.reduceAdd, Nat.reduceEqDiff, Nat.reduceLT, Nat.reduceLeDiff, Nat.reduceMul, Nat.reduceSub, BEq.rfl, beq_self_eq_true, Int.reduceToNat]
  first | refine hK _ ?_ | refine ⟨by (first | trivial | omega | (simp only [ob, ln, bdv, sv] at *; omega) | ((try clear hK K); (repeat' first | apply And.intro | intro _) <;> first | trivial | omega | assumption | solve_by_elim | (apply bd_getD <;> first | assumption | decide) | (apply bd_subL <;> first | assumption | decide) | (simp only [ob, ln, bdv, sv] at *; first | omega | assumption | (simp_all; done) | grind))), hK _ ?_⟩
  clear hK K
  refine AWP.seq ?_
  refine AWP.regS G_ok laws_toSpareS_DD hc (by kernel_rfl) (fun K hK => ?_); simp only [ea, gv, sv, D_laws_toSpare, reduceCtorEq, reduceIte, Nat.reduceBEq, Nat.reduceAdd, Nat.reduceEqDiff, Nat.reduceLT, Nat.reduceLeDiff, Nat.reduceMul, Nat.reduceSub, BEq.rfl, beq_self_eq_true, Int.reduceToNat]
  first | refine hK _ ?_ | refine ⟨by (first | trivial | omega | (simp only [ob, ln, bdv, sv] at *; omega) | ((try clear hK K); (repeat' first | apply And.intro | intro _) <;> first | trivial | omega | assumption | solve_by_elim | (apply bd_getD <;> first | assumption | decide) | (apply bd_subL <;> first | assumption | decide) | (simp only [ob, ln, bdv, sv] at *; first | omega | assumption | (simp_all; done) | grind))), hK _ ?_⟩
  clear hK K
  refine AWP.seq ?_
  refine AWP.seq ?_
  refine AWP.regS G_ok laws_toSpareS_DD hc (by kernel_rfl) (fun K hK => ?_); simp only [ea, gv, sv, D_laws_toSpare, reduceCtorEq, reduceIte, Nat.reduceBEq, Nat.reduceAdd, Nat.reduceEqDiff, Nat.reduceLT, Nat.reduceLeDiff, Nat.reduceMul, Nat.reduceSub, BEq.rfl, beq_self_eq_true, Int.reduceToNat]
  first | refine hK _ ?_ | refine ⟨by (first | trivial | omega | (simp only [ob, ln, bdv, sv] at *; omega) | ((try clear hK K); (repeat' first | apply And.intro | intro _) <;> first | trivial | omega | assumption | solve_by_elim | (apply bd_getD <;> first | assumption | decide) | (apply bd_subL <;> first | assumption | decide) | (simp only [ob, ln, bdv, sv] at *; first | omega | assumption | (simp_all; done) | grind))), hK _ ?_⟩
  clear hK K
  refine AWP.block ?_
  generalize hz1 : loopR (laws_toSpareS_b1 a0) (a0.length - 0) 0 (List.replicate a0.length (default : Spare)) = z1 at hR
  refine AWP.range (laws_toSpareS_b1 a0) (fun i1 s1 => ⟨[(0, encL 3 eSpare a0), (3, .ref 0 3 0 s1.length), (4, .int .i64 (i1 : Int))], [.arr 93 3 s1.length (fun j => eSpare (s1.getD j default))]⟩) (fun i1 s1 => s1.length = (List.replicate a0.length (default : Spare)).length) (a0.length) 0 (List.replicate a0.length (default : Spare)) [0] hz1 (by (first | trivial | omega | (simp only [ob, ln, bdv, sv] at *; omega) | ((try clear hK K); (repeat' first | apply And.intro | intro _) <;> first | trivial | omega | assumption | solve_by_elim | (apply bd_getD <;> first | assumption | decide) | (apply bd_subL <;> first | assumption | decide) | (simp only [ob, ln, bdv, sv] at *; first | omega | assumption | (simp_all; done) | grind)))) (by (first | trivial | (and_intros <;> simp only [ln] <;> omega) | (and_intros <;> simp only [ob, ln] at * <;> omega) | (and_intros <;> first | trivial | omega | assumption | (apply bd_set <;> first | assumption | (apply bd_getD <;> first | assumption | decide)) | (apply bd_app <;> first | assumption | (apply bd_getD <;> first | assumption | decide)) | (simp only [ob, ln, bdv, sv] at *; omega) | (simp; done)))) (by (simp only [si, ea, gv, sv, hk, reduceCtorEq, reduceIte, Nat.reduceBEq, Nat.reduceAdd, Nat.reduceEqDiff, Nat.reduceLT, Nat.reduceLeDiff, Nat.reduceMul, Nat.reduceSub, BEq.rfl, beq_self_eq_true, Int.reduceToNat]; first | done | trivial | (and_intros <;> first | rfl | trivial | omega | (rw [IntKind.wrap_i64]; omega) | (simp only [ln]; done) | (simp only [ob, ln, bdv, sv] at *; first | omega | grind) | (left; intro j hj; simp only [pw, Bool.cond_eq_ite, Bool.and_eq_true, decide_eq_true_eq]; (repeat' split) <;> simp [putL, NoBorL, NoBor]) | (intro j hj; simp only [pw, Bool.cond_eq_ite, Bool.and_eq_true, decide_eq_true_eq]; (try rw [subL_getD _ _ _ _ (by first | assumption | omega)]); (try rw [clearL_getD _ _ _ _ (by first | omega | (simp only [ob, ln, bdv] at *; omega))]); (repeat' split) <;> first | rfl | omega | exact simOL_refl _ | (simp_all; done) | (simp_all; rfl) | (simp_all; omega) | (simp_all; exact simOL_refl _) | (simp [putL, NoBorL, NoBor]; done))))) ?_
  clear hz1
  intro i1 s1 hi1 hW1 hz1
  refine AWP.seq ?_
  refine AWP.seq ?_
  refine AWP.regS G_ok laws_toSpareS_DD hc (by kernel_rfl) (fun K hK => ?_); simp only [ea, gv, sv, D_laws_toSpare, reduceCtorEq, reduceIte, Nat.reduceBEq, Nat.reduceAdd, Nat.reduceEqDiff, Nat.reduceLT, Nat.reduceLeDiff, Nat.reduceMul, Nat.reduceSub, BEq.rfl, beq_self_eq_true, Int.reduceToNat]
  first | refine hK _ ?_ | refine ⟨by (first | trivial | omega | (simp only [ob, ln, bdv, sv] at *; omega) | ((try clear hK K); (repeat' first | apply And.intro | intro _) <;> first | trivial | omega | assumption | solve_by_elim | (apply bd_getD <;> first | assumption | decide) | (apply bd_subL <;> first | assumption | decide) | (simp only [ob, ln, bdv, sv] at *; first | omega | assumption | (simp_all; done) | grind))), hK _ ?_⟩
  clear hK K
  refine AWP.cond rfl (fun hb => ?_) (fun hb => ?_)
  · have hlt1 : i1 < a0.length := by (first | trivial | omega | (simp only [ob, ln, bdv, sv] at *; omega) | ((try clear hK K); (repeat' first | apply And.intro | intro _) <;> first | trivial | omega | assumption | solve_by_elim | (apply bd_getD <;> first | assumption | decide) | (apply bd_subL <;> first | assumption | decide) | (simp only [ob, ln, bdv, sv] at *; first | omega | assumption | (simp_all; done) | grind)))
    rw [loopR_lt hlt1] at hz1; simp only [laws_toSpareS_b1] at hz1
    refine AWP.skip ?_
    refine AWP.seq ?_
    refine AWP.block ?_
    refine AWP.regS G_ok laws_toSpareS_DD hc (by kernel_rfl) (fun K hK => ?_); simp only [ea, gv, sv, D_laws_toSpare, reduceCtorEq, reduceIte, Nat.reduceBEq, Nat.reduceAdd, Nat.reduceEqDiff, Nat.reduceLT, Nat.reduceLeDiff, Nat.reduceMul, Nat.reduceSub, BEq.rfl, beq_self_eq_true, Int.reduceToNat]
    first | refine hK _ ?_ | refine ⟨by (first | trivial | omega | (simp only [ob, ln, bdv, sv] at *; omega) | ((try clear hK K); (repeat' first | apply And.intro | intro _) <;> first | trivial | omega | assumption | solve_by_elim | (apply bd_getD <;> first | assumption | decide) | (apply bd_subL <;> first | assumption | decide) | (simp only [ob, ln, bdv, sv] at *; first | omega | assumption | (simp_all; done) | grind))), hK _ ?_⟩
    clear hK K
    refine AWP.regS G_ok laws_toSpareS_DD hc (by kernel_rfl) (fun K hK => ?_); simp only [ea, gv, sv, D_laws_toSpare, reduceCtorEq, reduceIte, Nat.reduceBEq, Nat.reduceAdd, Nat.reduceEqDiff, Nat.reduceLT, Nat.reduceLeDiff, Nat.reduceMul, Nat.reduceSub, BEq.rfl, beq_self_eq_true, Int.reduceToNat]
    first | refine hK _ ?_ | refine ⟨by (first | trivial | omega | (simp only [ob, ln, bdv, sv] at *; omega) | ((try clear hK K); (repeat' first | apply And.intro | intro _) <;> first | trivial | omega | assumption | solve_by_elim | (apply bd_getD <;> first | assumption | decide) | (apply bd_subL <;> first | assumption | decide) | (simp only [ob, ln, bdv, sv] at *; first | omega | assumption | (simp_all; done) | grind))), hK _ ?_⟩
    clear hK K
    exact ⟨_, [0], hlt1, by (first | trivial | (and_intros <;> simp only [ln] <;> omega) | (and_intros <;> simp only [ob, ln] at * <;> omega) | (and_intros <;> first | trivial | omega | assumption | (apply bd_set <;> first | assumption | (apply bd_getD <;> first | assumption | decide)) | (apply bd_app <;> first | assumption | (apply bd_getD <;> first | assumption | decide)) | (simp only [ob, ln, bdv, sv] at *; omega) | (simp; done))), hz1, by (simp only [si, ea, gv, sv, hk, reduceCtorEq, reduceIte, Nat.reduceBEq, Nat.reduceAdd, Nat.reduceEqDiff, Nat.reduceLT, Nat.reduceLeDiff, Nat.reduceMul, Nat.reduceSub, BEq.rfl, beq_self_eq_true, Int.reduceToNat]; first | done | trivial | (and_intros <;> first | rfl | trivial | omega | (rw [IntKind.wrap_i64]; omega) | (simp only [ln]; done) | (simp only [ob, ln, bdv, sv] at *; first | omega | grind) | (left; intro j hj; simp only [pw, Bool.cond_eq_ite, Bool.and_eq_true, decide_eq_true_eq]; (repeat' split) <;> simp [putL, NoBorL, NoBor]) | (intro j hj; simp only [pw, Bool.cond_eq_ite, Bool.and_eq_true, decide_eq_true_eq]; (try rw [subL_getD _ _ _ _ (by first | assumption | omega)]); (try rw [clearL_getD _ _ _ _ (by first | omega | (simp only [ob, ln, bdv] at *; omega))]); (repeat' split) <;> first | rfl | omega | exact simOL_refl _ | (simp_all; done) | (simp_all; rfl) | (simp_all; omega) | (simp_all; exact simOL_refl _) | (simp [putL, NoBorL, NoBor]; done))))⟩
  · obtain rfl : i1 = a0.length := by (first | trivial | omega | (simp only [ob, ln, bdv, sv] at *; omega) | ((try clear hK K); (repeat' first | apply And.intro | intro _) <;> first | trivial | omega | assumption | solve_by_elim | (apply bd_getD <;> first | assumption | decide) | (apply bd_subL <;> first | assumption | decide) | (simp only [ob, ln, bdv, sv] at *; first | omega | assumption | (simp_all; done) | grind)))
    rw [loopR_ge (Nat.le_refl _)] at hz1; subst hz1; dsimp only at hR
    refine AWP.exit ?_; refine exitTo_here ?_
    refine AWP.seq ?_
    refine AWP.regS G_ok laws_toSpareS_DD hc (by kernel_rfl) (fun K hK => ?_); simp only [ea, gv, sv, D_laws_toSpare, reduceCtorEq, reduceIte, Nat.reduceBEq, Nat.reduceAdd, Nat.reduceEqDiff, Nat.reduceLT, Nat.reduceLeDiff, Nat.reduceMul, Nat.reduceSub, BEq.rfl, beq_self_eq_true, Int.reduceToNat]
    first | refine hK _ ?_ | refine ⟨by (first | trivial | omega | (simp only [ob, ln, bdv, sv] at *; omega) | ((try clear hK K); (repeat' first | apply And.intro | intro _) <;> first | trivial | omega | assumption | solve_by_elim | (apply bd_getD <;> first | assumption | decide) | (apply bd_subL <;> first | assumption | decide) | (simp only [ob, ln, bdv, sv] at *; first | omega | assumption | (simp_all; done) | grind))), hK _ ?_⟩
    clear hK K
    refine AWP.ret ?_
    subst hR
    (simp only [en, si, ea, gv, sv, hk, reduceCtorEq, reduceIte, Nat.reduceBEq, Nat.reduceAdd, Nat.reduceEqDiff, Nat.reduceLT, Nat.reduceLeDiff, Nat.reduceMul, Nat.reduceSub, BEq.rfl, beq_self_eq_true, Int.reduceToNat]; first | done | trivial | (and_intros <;> first | rfl | trivial | omega | (rw [IntKind.wrap_i64]; omega) | (simp only [ln]; done) | (simp only [ob, ln, bdv, sv] at *; first | omega | grind) | (left; intro j hj; simp only [pw, Bool.cond_eq_ite, Bool.and_eq_true, decide_eq_true_eq]; (repeat' split) <;> simp [putL, NoBorL, NoBor]) | (intro j hj; simp only [pw, Bool.cond_eq_ite, Bool.and_eq_true, decide_eq_true_eq]; (try rw [subL_getD _ _ _ _ (by first | assumption | omega)]); (try rw [clearL_getD _ _ _ _ (by first | omega | (simp only [ob, ln, bdv] at *; omega))]); (repeat' split) <;> first | rfl | omega | exact simOL_refl _ | (simp_all; done) | (simp_all; rfl) | (simp_all; omega) | (simp_all; exact simOL_refl _) | (simp [putL, NoBorL, NoBor]; done))))

def D_laws_toSpareS : DF
  | [x0] => some (ownL 93 3 eSpare (laws_toSpareS (rdL dSpare x0)), false, [wL 3 eSpare dSpare x0, (rdL dSpare x0).length < 1099511627776, ∀ v ∈ (rdL dSpare x0), bdSpare v])
  | _ => none
def Dz_laws_toSpareS : DF
  | [x0] => some (ownL 93 3 eSpare (laws_toSpareS (rdL dSpare x0)), true, [wL 3 eSpare dSpare x0, (rdL dSpare x0).length < 1099511627776, ∀ v ∈ (rdL dSpare x0), bdSpare v])
  | _ => none
theorem D_laws_toSpareS_ok : OkD Try.prog 69 D_laws_toSpareS := by
  intro xs r z ob h ho
  unfold D_laws_toSpareS at h
  split at h
  · simp only [Option.some.injEq, Prod.mk.injEq] at h
    obtain ⟨rfl, rfl, rfl⟩ := h
    obtain ⟨h0, hb0, hb1, _⟩ := ho
    exact Den.sim (laws_toSpareS_den _ hb0 hb1) (simOL_cons (wL_sim h0).1 <| trivial) (noIdL_cons (wL_sim h0).2 <| rfl) rfl
  · cases h

theorem Dz_laws_toSpareS_ok : OkD Try.prog 69 Dz_laws_toSpareS := by
  intro xs r z ob h ho
  unfold Dz_laws_toSpareS at h
  split at h
  · simp only [Option.some.injEq, Prod.mk.injEq] at h
    obtain ⟨rfl, rfl, rfl⟩ := h
    obtain ⟨h0, hb0, hb1, _⟩ := ho
    exact Den.sim (laws_toSpareS_den _ hb0 hb1) (simOL_cons (wL_sim h0).1 <| trivial) (noIdL_cons (wL_sim h0).2 <| rfl) rfl
  · cases h
end Go.Ab

namespace Go.Ab
open Go Go.Proofs
theorem laws_toEntry_DD : DOk Try.prog (DD []) := DD_nil _
def laws_toEntry (a0 : Entry) : Entry :=
  { Day := a0.Day, Item := a0.Item, Amount := a0.Amount : Entry }

theorem laws_toEntry_den (a0 : Entry)  : Den Try.prog 115 [.agg (eEntry a0)] (.agg (eEntry (laws_toEntry a0))) := by
  generalize hR : laws_toEntry a0 = r
  unfold laws_toEntry at hR
  refine den_intro G_ok Try.func115 (by kernel_rfl) rfl Try.ntmps115 (by rw [Try.results115]) (by simp) rfl ?_
  intro c hL hc hk
  obtain ⟨hL0, _⟩ := hL
  have hw0 : bwEntry a0 := Entry_lens a0 hL0
  clear hL0
  simp only [pars, Nat.zero_add]
  refine AWP.seq ?_
  refine AWP.regS G_ok laws_toEntry_DD hc (by kernel_rfl) (fun K hK => ?_); simp only [ea, gv, sv, reduceCtorEq, reduceIte, Nat.reduceBEq, Nat.reduceAdd, Nat.reduceEqDiff, Nat.reduceLT, Nat.reduceLeDiff, Nat.reduceMul, Nat.reduceSub, BEq.rfl, beq_self_eq_true, Int.reduceToNat]
  first | refine hK _ ?_ | refine ⟨by (first | trivial | omega | (simp only [ob, ln, bdv, sv] at *; omega) | ((try clear hK K); (repeat' first | apply And.intro | intro _) <;> first | trivial | omega | assumption | solve_by_elim | (apply bd_getD <;> first | assumption | decide) | (apply bd_subL <;> first | assumption | decide) | (simp only [ob, ln, bdv, sv] at *; first | omega | assumption | (simp_all; done) | grind))), hK _ ?_⟩
  clear hK K
  refine AWP.seq ?_
  refine AWP.regS G_ok laws_toEntry_DD hc (by kernel_rfl) (fun K hK => ?_); simp only [ea, gv, sv, reduceCtorEq, reduceIte, Nat.reduceBEq, Nat.reduceAdd, Nat.reduceEqDiff, Nat.reduceLT, Nat.reduceLeDiff, Nat.reduceMul, Nat.reduceSub, BEq.rfl, beq_self_eq_true, Int.reduceToNat]
  first | refine hK _ ?_ | refine ⟨by (first | trivial | omega | (simp only [ob, ln, bdv, sv] at *; omega) | ((try clear hK K); (repeat' first | apply And.intro | intro _) <;> first | trivial | omega | assumption | solve_by_elim | (apply bd_getD <;> first | assumption | decide) | (apply bd_subL <;> first | assumption | decide) | (simp only [ob, ln, bdv, sv] at *; first | omega | assumption | (simp_all; done) | grind))), hK _ ?_⟩
  clear hK K
  refine AWP.seq ?_
  refine AWP.regS G_ok laws_toEntry_DD hc (by kernel_rfl) (fun K hK => ?_); simp only [ea, gv, sv, reduceCtorEq, reduceIte, Nat.reduceBEq, Nat.reduceAdd, Nat.reduceEqDiff, Nat.reduceLT, Nat.reduceLeDiff, Nat.reduceMul, Nat.reduceSub, BEq.rfl, beq_self_eq_true, Int.reduceToNat]
  first | refine hK _ ?_ | refine ⟨by (first | trivial | omega | (simp only [ob, ln, bdv, sv] at *; omega) | ((try clear hK K); (repeat' first | apply And.intro | intro _) <;> first | trivial | omega | assumption | solve_by_elim | (apply bd_getD <;> first | assumption | decide) | (apply bd_subL <;> first | assumption | decide) | (simp only [ob, ln, bdv, sv] at *; first | omega | assumption | (simp_all; done) | grind))), hK _ ?_⟩
  clear hK K
  refine AWP.seq ?_
  refine AWP.regS G_ok laws_toEntry_DD hc (by kernel_rfl) (fun K hK => ?_); simp only [ea, gv, sv, reduceCtorEq, reduceIte, Nat.reduceBEq, Nat.reduceAdd, Nat.reduceEqDiff, Nat.reduceLT, Nat.reduceLeDiff, Nat.reduceMul, Nat.reduceSub, BEq.rfl, beq_self_eq_true, Int.reduceToNat]
  first | refine hK _ ?_ | refine ⟨by (first | trivial | omega | (simp only [ob, ln, bdv, sv] at *; omega) | ((try clear hK K); (repeat' first | apply And.intro | intro _) <;> first | trivial | omega | assumption | solve_by_elim | (apply bd_getD <;> first | assumption | decide) | (apply bd_subL <;> first | assumption | decide) | (simp only [ob, ln, bdv, sv] at *; first | omega | assumption | (simp_all; done) | grind))), hK _ ?_⟩
  clear hK K
  refine AWP.seq ?_
  refine AWP.regS G_ok laws_toEntry_DD hc (by kernel_rfl) (fun K hK => ?_); simp only [ea, gv, sv, reduceCtorEq, reduceIte, Nat.reduceBEq, Nat.reduceAdd, Nat.reduceEqDiff, Nat.reduceLT, Nat.reduceLeDiff, Nat.reduceMul, Nat.reduceSub, BEq.rfl, beq_self_eq_true, Int.reduceToNat]
  first | refine hK _ ?_ | refine ⟨by (first | trivial | omega | (simp only [ob, ln, bdv, sv] at *; omega) | ((try clear hK K); (repeat' first | apply And.intro | intro _) <;> first | trivial | omega | assumption | solve_by_elim | (apply bd_getD <;> first | assumption | decide) | (apply bd_subL <;> first | assumption | decide) | (simp only [ob, ln, bdv, sv] at *; first | omega | assumption | (simp_all; done) | grind))), hK _ ?_⟩
  clear hK K
  refine AWP.seq ?_
  refine AWP.regS G_ok laws_toEntry_DD hc (by kernel_rfl) (fun K hK => ?_); simp only [ea, gv, sv, reduceCtorEq, reduceIte, Nat.reduceBEq, Nat.reduceAdd, Nat.reduceEqDiff, Nat.reduceLT, Nat.reduceLeDiff, Nat.reduceMul, Nat.reduceSub, BEq.rfl, beq_self_eq_true, Int.reduceToNat]
  first | refine hK _ ?_ | refine ⟨by (first | trivial | omega | (simp only [ob, ln, bdv, sv] at *; omega) | ((try clear hK K); (repeat' first | apply And.intro | intro _) <;> first | trivial | omega | assumption | solve_by_elim | (apply bd_getD <;> first | assumption | decide) | (apply bd_subL <;> first | assumption | decide) | (simp only [ob, ln, bdv, sv] at *; first | omega | assumption | (simp_all; done) | grind))), hK _ ?_⟩
  clear hK K
  refine AWP.ret ?_
  subst hR
  (simp only [en, si, ea, gv, sv, hk, reduceCtorEq, reduceIte, Nat.reduceBEq, Nat.reduceAdd, Nat.reduceEqDiff, Nat.reduceLT, Nat.reduceLeDiff, Nat.reduceMul, Nat.reduceSub, BEq.rfl, beq_self_eq_true, Int.reduceToNat]; first | done | trivial | (and_intros <;> first | rfl | trivial | omega | (rw [IntKind.wrap_i64]; omega) | (simp only [ln]; done) | (simp only [ob, ln, bdv, sv] at *; first | omega | grind) | (left; intro j hj; simp only [pw, Bool.cond_eq_ite, Bool.and_eq_true, decide_eq_true_eq]; (repeat' split) <;> simp [putL, NoBorL, NoBor]) | (intro j hj; simp only [pw, Bool.cond_eq_ite, Bool.and_eq_true, decide_eq_true_eq]; (try rw [subL_getD _ _ _ _ (by first | assumption | omega)]); (try rw [clearL_getD _ _ _ _ (by first | omega | (simp only [ob, ln, bdv] at *; omega))]); (repeat' split) <;> first | rfl | omega | exact simOL_refl _ | (simp_all; done) | (simp_all; rfl) | (simp_all; omega) | (simp_all; exact simOL_refl _) | (simp [putL, NoBorL, NoBor]; done))))

def D_laws_toEntry : DF
  | [x0] => some (.agg (eEntry (laws_toEntry (rdG dEntry x0))), false, [wG eEntry dEntry x0])
  | _ => none
theorem D_laws_toEntry_ok : OkD Try.prog 115 D_laws_toEntry := by
  intro xs r z ob h ho
  unfold D_laws_toEntry at h
  split at h
  · simp only [Option.some.injEq, Prod.mk.injEq] at h
    obtain ⟨rfl, rfl, rfl⟩ := h
    obtain ⟨h0, _⟩ := ho
    exact Den.sim (laws_toEntry_den _ ) (simOL_cons (wG_sim h0).1 <| trivial) (noIdL_cons (wG_sim h0).2 <| rfl) rfl
  · cases h
end Go.Ab

namespace Go.Ab
open Go Go.Proofs
theorem laws_toEntryS_DD : DOk Try.prog (DD [(115, dP D_laws_toEntry)]) := DD_cons D_laws_toEntry_ok.e <| DD_nil _
def laws_toEntryS_b1 (a0 : (List Entry)) (i1 : Nat) (s1 : List Entry) : Except ((List Entry)) (List Entry) :=
  .ok (s1.set i1 (laws_toEntry (a0.getD i1 default)))

def laws_toEntryS (a0 : (List Entry)) : (List Entry) :=
  (match loopR (laws_toEntryS_b1 a0) (a0.length - 0) 0 (List.replicate a0.length (default : Entry)) with | .error e => e | .ok s1 => s1)

theorem laws_toEntryS_den (a0 : (List Entry)) (hb0 : a0.length < 1099511627776) (hb1 : ∀ v ∈ a0, bdEntry v) : Den Try.prog 70 [encL 3 eEntry a0] (ownL 95 3 eEntry (laws_toEntryS a0)) := by
  generalize hR : laws_toEntryS a0 = r
  unfold laws_toEntryS at hR
  refine den_intro G_ok Try.func70 (by kernel_rfl) rfl Try.ntmps70 (by rw [Try.results70]) (by simp) rfl ?_
  intro c hL hc hk
  obtain ⟨hL0, _⟩ := hL
  have hw0 : a0.length < 9223372036854775808 := Nat.lt_succ_of_le (lens_encL hL0).1
  have hw1 : ∀ v ∈ a0, bwEntry v := fun v hv => Entry_lens v ((lens_encL hL0).2 v hv)
  clear hL0
  simp only [pars, Nat.zero_add]
  refine AWP.seq ?_
  refine AWP.regS G_ok laws_toEntryS_DD hc (by kernel_rfl) (fun K hK => ?_); simp only [ea, gv, sv, D_laws_toEntry, reduceCtorEq, reduceIte, Nat.reduceBEq, Nat.reduceAdd, Nat.reduceEqDiff, Nat.reduceLT, Nat.reduceLeDiff, Nat.reduceMul, Nat.reduceSub, BEq.rfl, beq_self_eq_true, Int.reduceToNat]
  first | refine hK _ ?_ | refine ⟨by (first | trivial | omega | (simp only [ob, ln, bdv, sv] at *; omega) | ((try clear hK K); (repeat' first | apply And.intro | intro _) <;> first | trivial | omega | assumption | solve_by_elim | (apply bd_getD <;> first | assumption | decide) | (apply bd_subL <;> first | assumption | decide) | (simp only [ob, ln, bdv, sv] at *; first | omega | assumption | (simp_all; done) | grind))), hK _ ?_⟩
  clear hK K
  refine AWP.seq ?_
  refine AWP.regS G_ok laws_toEntryS_DD hc (by kernel_rfl) (fun K hK => ?_); simp only [ea, gv, sv, D_laws_toEntry, reduceCtorEq, reduceIte, Nat.reduceBEq, Nat.reduceAdd, Nat.reduceEqDiff, Nat.reduceLT, Nat.reduceLeDiff, Nat.reduceMul, Nat.reduceSub, BEq.rfl, beq_self_eq_true, Int.reduceToNat]
  first | refine hK _ ?_ | refine ⟨by (first | trivial | omega | (simp only [ob, ln, bdv, sv] at *; omega) | ((try clear hK K); (repeat' first | apply And.intro | intro _) <;> first | trivial | omega | assumption | solve_by_elim | (apply bd_getD <;> first | assumption | decide) | (apply bd_subL <;> first | assumption | decide) | (simp only [ob, ln, bdv, sv] at *; first | omega | assumption | (simp_all; done) | grind))), hK _ ?_⟩
  clear hK K
  refine AWP.seq ?_
  refine AWP.seq ?_
  refine AWP.regS G_ok laws_toEntryS_DD hc (by kernel_rfl) (fun K hK => ?_); simp only [ea, gv, sv, D_laws_toEntry, reduceCtorEq, reduceIte, Nat.reduceBEq, Nat.reduceAdd, Nat.reduceEqDiff, Nat.reduceLT, Nat.reduceLeDiff, Nat.reduceMul, Nat.reduceSub, BEq.rfl, beq_self_eq_true, Int.reduceToNat]
  first | refine hK _ ?_ | refine ⟨by (first | trivial | omega | (simp only [ob, ln, bdv, sv] at *; omega) | ((try clear hK K); (repeat' first | apply And.intro | intro _) <;> first | trivial | omega | assumption | solve_by_elim | (apply bd_getD <;> first | assumption | decide) | (apply bd_subL <;> first | assumption | decide) | (simp only [ob, ln, bdv, sv] at *; first | omega | assumption | (simp_all; done) | grind))), hK _ ?_⟩
  clear hK K
  refine AWP.block ?_
  generalize hz1 : loopR (laws_toEntryS_b1 a0) (a0.length - 0) 0 (List.replicate a0.length (default : Entry)) = z1 at hR
  refine AWP.range (laws_toEntryS_b1 a0) (fun i1 s1 => ⟨[(0, encL 3 eEntry a0), (3, .ref 0 3 0 s1.length), (4, .int .i64 (i1 : Int))], [.arr 95 3 s1.length (fun j => eEntry (s1.getD j default))]⟩) (fun i1 s1 => s1.length = (List.replicate a0.length (default : Entry)).length) (a0.length) 0 (List.replicate a0.length (default : Entry)) [0] hz1 (by (first | trivial | omega | (simp only [ob, ln, bdv, sv] at *; omega) | ((try clear hK K); (repeat' first | apply And.intro | intro _) <;> first | trivial | omega | assumption | solve_by_elim | (apply bd_getD <;> first | assumption | decide) | (apply bd_subL <;> first | assumption | decide) | (simp only [ob, ln, bdv, sv] at *; first | omega | assumption | (simp_all; done) | grind)))) (by (first | trivial | (and_intros <;> simp only [ln] <;> omega) | (and_intros <;> simp only [ob, ln] at * <;> omega) | (and_intros <;> first | trivial | omega | assumption | (apply bd_set <;> first | assumption | (apply bd_getD <;> first | assumption | decide)) | (apply bd_app <;> first | assumption | (apply bd_getD <;> first | assumption | decide)) | (simp only [ob, ln, bdv, sv] at *; omega) | (simp; done)))) (by (simp only [si, ea, gv, sv, hk, reduceCtorEq, reduceIte, Nat.reduceBEq, Nat.reduceAdd, Nat.reduceEqDiff, Nat.reduceLT, Nat.reduceLeDiff, Nat.reduceMul, Nat.reduceSub, BEq.rfl, beq_self_eq_true, Int.reduceToNat]; first | done | trivial | (and_intros <;> first | rfl | trivial | omega | (rw [IntKind.wrap_i64]; omega) | (simp only [ln]; done) | (simp only [ob, ln, bdv, sv] at *; first | omega | grind) | (left; intro j hj; simp only [pw, Bool.cond_eq_ite, Bool.and_eq_true, decide_eq_true_eq]; (repeat' split) <;> simp [putL, NoBorL, NoBor]) | (intro j hj; simp only [pw, Bool.cond_eq_ite, Bool.and_eq_true, decide_eq_true_eq]; (try rw [subL_getD _ _ _ _ (by first | assumption | omega)]); (try rw [clearL_getD _ _ _ _ (by first | omega | (simp only [ob, ln, bdv] at *; omega))]); (repeat' split) <;> first | rfl | omega | exact simOL_refl _ | (simp_all; done) | (simp_all; rfl) | (simp_all; omega) | (simp_all; exact simOL_refl _) | (simp [putL, NoBorL, NoBor]; done))))) ?_
  clear hz1
  intro i1 s1 hi1 hW1 hz1
  refine AWP.seq ?_
  refine AWP.seq ?_
  refine AWP.regS G_ok laws_toEntryS_DD hc (by kernel_rfl) (fun K hK => ?_); simp only [ea, gv, sv, D_laws_toEntry, reduceCtorEq, reduceIte, Nat.reduceBEq, Nat.reduceAdd, Nat.reduceEqDiff, Nat.reduceLT, Nat.reduceLeDiff, Nat.reduceMul, Nat.reduceSub, BEq.rfl, beq_self_eq_true, Int.reduceToNat]
  first | refine hK _ ?_ | refine ⟨by (first | trivial | omega | (simp only [ob, ln, bdv, sv] at *; omega) | ((try clear hK K); (repeat' first | apply And.intro | intro _) <;> first | trivial | omega | assumption | solve_by_elim | (apply bd_getD <;> first | assumption | decide) | (apply bd_subL <;> first | assumption | decide) | (simp only [ob, ln, bdv, sv] at *; first | omega | assumption | (simp_all; done) | grind))), hK _ ?_⟩
  clear hK K
  refine AWP.cond rfl (fun hb => ?_) (fun hb => ?_)
  · have hlt1 : i1 < a0.length := by (first | trivial | omega | (simp only [ob, ln, bdv, sv] at *; omega) | ((try clear hK K); (repeat' first | apply And.intro | intro _) <;> first | trivial | omega | assumption | solve_by_elim | (apply bd_getD <;> first | assumption | decide) | (apply bd_subL <;> first | assumption | decide) | (simp only [ob, ln, bdv, sv] at *; first | omega | assumption | (simp_all; done) | grind)))
    rw [loopR_lt hlt1] at hz1; simp only [laws_toEntryS_b1] at hz1
    refine AWP.skip ?_
    refine AWP.seq ?_
    refine AWP.block ?_
    refine AWP.regS G_ok laws_toEntryS_DD hc (by kernel_rfl) (fun K hK => ?_); simp only [ea, gv, sv, D_laws_toEntry, reduceCtorEq, reduceIte, Nat.reduceBEq, Nat.reduceAdd, Nat.reduceEqDiff, Nat.reduceLT, Nat.reduceLeDiff, Nat.reduceMul, Nat.reduceSub, BEq.rfl, beq_self_eq_true, Int.reduceToNat]
    first | refine hK _ ?_ | refine ⟨by (first | trivial | omega | (simp only [ob, ln, bdv, sv] at *; omega) | ((try clear hK K); (repeat' first | apply And.intro | intro _) <;> first | trivial | omega | assumption | solve_by_elim | (apply bd_getD <;> first | assumption | decide) | (apply bd_subL <;> first | assumption | decide) | (simp only [ob, ln, bdv, sv] at *; first | omega | assumption | (simp_all; done) | grind))), hK _ ?_⟩
    clear hK K
    refine AWP.regS G_ok laws_toEntryS_DD hc (by kernel_rfl) (fun K hK => ?_); simp only [ea, gv, sv, D_laws_toEntry, reduceCtorEq, reduceIte, Nat.reduceBEq, Nat.reduceAdd, Nat.reduceEqDiff, Nat.reduceLT, Nat.reduceLeDiff, Nat.reduceMul, Nat.reduceSub, BEq.rfl, beq_self_eq_true, Int.reduceToNat]
    first | refine hK _ ?_ | refine ⟨by (first | trivial | omega | (simp only [ob, ln, bdv, sv] at *; omega) | ((try clear hK K); (repeat' first | apply And.intro | intro _) <;> first | trivial | omega | assumption | solve_by_elim | (apply bd_getD <;> first | assumption | decide) | (apply bd_subL <;> first | assumption | decide) | (simp only [ob, ln, bdv, sv] at *; first | omega | assumption | (simp_all; done) | grind))), hK _ ?_⟩
    clear hK K
    exact ⟨_, [0], hlt1, by (first | trivial | (and_intros <;> simp only [ln] <;> omega) | (and_intros <;> simp only [ob, ln] at * <;> omega) | (and_intros <;> first | trivial | omega | assumption | (apply bd_set <;> first | assumption | (apply bd_getD <;> first | assumption | decide)) | (apply bd_app <;> first | assumption | (apply bd_getD <;> first | assumption | decide)) | (simp only [ob, ln, bdv, sv] at *; omega) | (simp; done))), hz1, by (simp only [si, ea, gv, sv, hk, reduceCtorEq, reduceIte, Nat.reduceBEq, Nat.reduceAdd, Nat.reduceEqDiff, Nat.reduceLT, Nat.reduceLeDiff, Nat.reduceMul, Nat.reduceSub, BEq.rfl, beq_self_eq_true, Int.reduceToNat]; first | done | trivial | (and_intros <;> first | rfl | trivial | omega | (rw [IntKind.wrap_i64]; omega) | (simp only [ln]; done) | (simp only [ob, ln, bdv, sv] at *; first | omega | grind) | (left; intro j hj; simp only [pw, Bool.cond_eq_ite, Bool.and_eq_true, decide_eq_true_eq]; (repeat' split) <;> simp [putL, NoBorL, NoBor]) | (intro j hj; simp only [pw, Bool.cond_eq_ite, Bool.and_eq_true, decide_eq_true_eq]; (try rw [subL_getD _ _ _ _ (by first | assumption | omega)]); (try rw [clearL_getD _ _ _ _ (by first | omega | (simp only [ob, ln, bdv] at *; omega))]); (repeat' split) <;> first | rfl | omega | exact simOL_refl _ | (simp_all; done) | (simp_all; rfl) | (simp_all; omega) | (simp_all; exact simOL_refl _) | (simp [putL, NoBorL, NoBor]; done))))⟩
  · obtain rfl : i1 = a0.length := by (first | trivial | omega | (simp only [ob, ln, bdv, sv] at *; omega) | ((try clear hK K); (repeat' first | apply And.intro | intro _) <;> first | trivial | omega | assumption | solve_by_elim | (apply bd_getD <;> first | assumption | decide) | (apply bd_subL <;> first | assumption | decide) | (simp only [ob, ln, bdv, sv] at *; first | omega | assumption | (simp_all; done) | grind)))
    rw [loopR_ge (Nat.le_refl _)] at hz1; subst hz1; dsimp only at hR
    refine AWP.exit ?_; refine exitTo_here ?_
    refine AWP.seq ?_
    refine AWP.regS G_ok laws_toEntryS_DD hc (by kernel_rfl) (fun K hK => ?_); simp only [ea, gv, sv, D_laws_toEntry, reduceCtorEq, reduceIte, Nat.reduceBEq, Nat.reduceAdd, Nat.reduceEqDiff, Nat.reduceLT, Nat.reduceLeDiff, Nat.reduceMul, Nat.reduceSub, BEq.rfl, beq_self_eq_true, Int.reduceToNat]
    first | refine hK _ ?_ | refine ⟨by (first | trivial | omega | (simp only [ob, ln, bdv, sv] at *; omega) | ((try clear hK K); (repeat' first | apply And.intro | intro _) <;> first | trivial | omega | assumption | solve_by_elim | (apply bd_getD <;> first | assumption | decide) | (apply bd_subL <;> first | assumption | decide) | (simp only [ob, ln, bdv, sv] at *; first | omega | assumption | (simp_all; done) | grind))), hK _ ?_⟩
    clear hK K
    refine AWP.ret ?_
    subst hR
    (simp only [en, si, ea, gv, sv, hk, reduceCtorEq, reduceIte, Nat.reduceBEq, Nat.reduceAdd, Nat.reduceEqDiff, Nat.reduceLT, Nat.reduceLeDiff, Nat.reduceMul, Nat.reduceSub, BEq.rfl, beq_self_eq_true, Int.reduceToNat]; first | done | trivial | (and_intros <;> first | rfl | trivial | omega | (rw [IntKind.wrap_i64]; omega) | (simp only [ln]; done) | (simp only [ob, ln, bdv, sv] at *; first | omega | grind) | (left; intro j hj; simp only [pw, Bool.cond_eq_ite, Bool.and_eq_true, decide_eq_true_eq]; (repeat' split) <;> simp [putL, NoBorL, NoBor]) | (intro j hj; simp only [pw, Bool.cond_eq_ite, Bool.and_eq_true, decide_eq_true_eq]; (try rw [subL_getD _ _ _ _ (by first | assumption | omega)]); (try rw [clearL_getD _ _ _ _ (by first | omega | (simp only [ob, ln, bdv] at *; omega))]); (repeat' split) <;> first | rfl | omega | exact simOL_refl _ | (simp_all; done) | (simp_all; rfl) | (simp_all; omega) | (simp_all; exact simOL_refl _) | (simp [putL, NoBorL, NoBor]; done))))

def D_laws_toEntryS : DF
  | [x0] => some (ownL 95 3 eEntry (laws_toEntryS (rdL dEntry x0)), false, [wL 3 eEntry dEntry x0, (rdL dEntry x0).length < 1099511627776, ∀ v ∈ (rdL dEntry x0), bdEntry v])
  | _ => none
def Dz_laws_toEntryS : DF
  | [x0] => some (ownL 95 3 eEntry (laws_toEntryS (rdL dEntry x0)), true, [wL 3 eEntry dEntry x0, (rdL dEntry x0).length < 1099511627776, ∀ v ∈ (rdL dEntry x0), bdEntry v])
  | _ => none
theorem D_laws_toEntryS_ok : OkD Try.prog 70 D_laws_toEntryS := by
  intro xs r z ob h ho
  unfold D_laws_toEntryS at h
  split at h
  · simp only [Option.some.injEq, Prod.mk.injEq] at h
    obtain ⟨rfl, rfl, rfl⟩ := h
    obtain ⟨h0, hb0, hb1, _⟩ := ho
    exact Den.sim (laws_toEntryS_den _ hb0 hb1) (simOL_cons (wL_sim h0).1 <| trivial) (noIdL_cons (wL_sim h0).2 <| rfl) rfl
  · cases h

theorem Dz_laws_toEntryS_ok : OkD Try.prog 70 Dz_laws_toEntryS := by
  intro xs r z ob h ho
  unfold Dz_laws_toEntryS at h
  split at h
  · simp only [Option.some.injEq, Prod.mk.injEq] at h
    obtain ⟨rfl, rfl, rfl⟩ := h
    obtain ⟨h0, hb0, hb1, _⟩ := ho
    exact Den.sim (laws_toEntryS_den _ hb0 hb1) (simOL_cons (wL_sim h0).1 <| trivial) (noIdL_cons (wL_sim h0).2 <| rfl) rfl
  · cases h
end Go.Ab

namespace Go.Ab
open Go Go.Proofs
theorem laws_toSpare_id (v : Spare) : laws_toSpare v = v := rfl
theorem laws_toSpareS_id (a : List Spare) : laws_toSpareS a = a := by
  unfold laws_toSpareS
  rw [loopR_fill (b := laws_toSpareS_b1 a) (fun i => laws_toSpare (a.getD i default)) (by simp) (fun i s _ => rfl)]
  simp only [laws_toSpare_id]
  exact range_getD a
end Go.Ab

namespace Go.Ab
open Go Go.Proofs
theorem laws_toEntry_id (v : Entry) : laws_toEntry v = v := rfl
theorem laws_toEntryS_id (a : List Entry) : laws_toEntryS a = a := by
  unfold laws_toEntryS
  rw [loopR_fill (b := laws_toEntryS_b1 a) (fun i => laws_toEntry (a.getD i default)) (by simp) (fun i s _ => rfl)]
  simp only [laws_toEntry_id]
  exact range_getD a
end Go.Ab

namespace Go.Ab
open Go Go.Proofs
theorem laws_toStore_DD : DOk Try.prog (DD [(69, dP D_laws_toSpareS), (70, dP D_laws_toEntryS)]) := DD_cons D_laws_toSpareS_ok.e <| DD_cons D_laws_toEntryS_ok.e <| DD_nil _
def laws_toStore (a0 : Store) : Store :=
  { Spares := (laws_toSpareS a0.Spares), Entries := (laws_toEntryS a0.Entries) : Store }

theorem laws_toStore_den (a0 : Store) (hb0 : bdStore a0) : Den Try.prog 28 [.agg (eStore a0)] (.agg (eStoreO (laws_toStore a0))) := by
  generalize hR : laws_toStore a0 = r
  unfold laws_toStore at hR
  refine den_intro G_ok Try.func28 (by kernel_rfl) rfl Try.ntmps28 (by rw [Try.results28]) (by simp) rfl ?_
  intro c hL hc hk
  obtain ⟨hL0, _⟩ := hL
  have hw0 : bwStore a0 := Store_lens a0 hL0
  clear hL0
  simp only [pars, Nat.zero_add]
  refine AWP.seq ?_
  refine AWP.regS G_ok laws_toStore_DD hc (by kernel_rfl) (fun K hK => ?_); simp only [ea, gv, sv, D_laws_toSpareS, D_laws_toEntryS, reduceCtorEq, reduceIte, Nat.reduceBEq, Nat.reduceAdd, Nat.reduceEqDiff, Nat.reduceLT, Nat.reduceLeDiff, Nat.reduceMul, Nat.reduceSub, BEq.rfl, beq_self_eq_true, Int.reduceToNat]
  first | refine hK _ ?_ | refine ⟨by (first | trivial | omega | (simp only [ob, ln, bdv, laws_toSpareS_id, laws_toEntryS_id, sv] at *; omega) | ((try clear hK K); (repeat' first | apply And.intro | intro _) <;> first | trivial | omega | assumption | solve_by_elim | (apply bd_getD <;> first | assumption | decide) | (apply bd_subL <;> first | assumption | decide) | (simp only [ob, ln, bdv, laws_toSpareS_id, laws_toEntryS_id, sv] at *; first | omega | assumption | (simp_all; done) | grind))), hK _ ?_⟩
  clear hK K
  refine AWP.seq ?_
  refine AWP.regS G_ok laws_toStore_DD hc (by kernel_rfl) (fun K hK => ?_); simp only [ea, gv, sv, D_laws_toSpareS, D_laws_toEntryS, reduceCtorEq, reduceIte, Nat.reduceBEq, Nat.reduceAdd, Nat.reduceEqDiff, Nat.reduceLT, Nat.reduceLeDiff, Nat.reduceMul, Nat.reduceSub, BEq.rfl, beq_self_eq_true, Int.reduceToNat]
  first | refine hK _ ?_ | refine ⟨by (first | trivial | omega | (simp only [ob, ln, bdv, laws_toSpareS_id, laws_toEntryS_id, sv] at *; omega) | ((try clear hK K); (repeat' first | apply And.intro | intro _) <;> first | trivial | omega | assumption | solve_by_elim | (apply bd_getD <;> first | assumption | decide) | (apply bd_subL <;> first | assumption | decide) | (simp only [ob, ln, bdv, laws_toSpareS_id, laws_toEntryS_id, sv] at *; first | omega | assumption | (simp_all; done) | grind))), hK _ ?_⟩
  clear hK K
  refine AWP.seq ?_
  refine AWP.regS G_ok laws_toStore_DD hc (by kernel_rfl) (fun K hK => ?_); simp only [ea, gv, sv, D_laws_toSpareS, D_laws_toEntryS, reduceCtorEq, reduceIte, Nat.reduceBEq, Nat.reduceAdd, Nat.reduceEqDiff, Nat.reduceLT, Nat.reduceLeDiff, Nat.reduceMul, Nat.reduceSub, BEq.rfl, beq_self_eq_true, Int.reduceToNat]
  first | refine hK _ ?_ | refine ⟨by (first | trivial | omega | (simp only [ob, ln, bdv, laws_toSpareS_id, laws_toEntryS_id, sv] at *; omega) | ((try clear hK K); (repeat' first | apply And.intro | intro _) <;> first | trivial | omega | assumption | solve_by_elim | (apply bd_getD <;> first | assumption | decide) | (apply bd_subL <;> first | assumption | decide) | (simp only [ob, ln, bdv, laws_toSpareS_id, laws_toEntryS_id, sv] at *; first | omega | assumption | (simp_all; done) | grind))), hK _ ?_⟩
  clear hK K
  refine AWP.seq ?_
  refine AWP.regS G_ok laws_toStore_DD hc (by kernel_rfl) (fun K hK => ?_); simp only [ea, gv, sv, D_laws_toSpareS, D_laws_toEntryS, reduceCtorEq, reduceIte, Nat.reduceBEq, Nat.reduceAdd, Nat.reduceEqDiff, Nat.reduceLT, Nat.reduceLeDiff, Nat.reduceMul, Nat.reduceSub, BEq.rfl, beq_self_eq_true, Int.reduceToNat]
  first | refine hK _ ?_ | refine ⟨by (first | trivial | omega | (simp only [ob, ln, bdv, laws_toSpareS_id, laws_toEntryS_id, sv] at *; omega) | ((try clear hK K); (repeat' first | apply And.intro | intro _) <;> first | trivial | omega | assumption | solve_by_elim | (apply bd_getD <;> first | assumption | decide) | (apply bd_subL <;> first | assumption | decide) | (simp only [ob, ln, bdv, laws_toSpareS_id, laws_toEntryS_id, sv] at *; first | omega | assumption | (simp_all; done) | grind))), hK _ ?_⟩
  clear hK K
  refine AWP.seq ?_
  refine AWP.regS G_ok laws_toStore_DD hc (by kernel_rfl) (fun K hK => ?_); simp only [ea, gv, sv, D_laws_toSpareS, D_laws_toEntryS, reduceCtorEq, reduceIte, Nat.reduceBEq, Nat.reduceAdd, Nat.reduceEqDiff, Nat.reduceLT, Nat.reduceLeDiff, Nat.reduceMul, Nat.reduceSub, BEq.rfl, beq_self_eq_true, Int.reduceToNat]
  first | refine hK _ ?_ | refine ⟨by (first | trivial | omega | (simp only [ob, ln, bdv, laws_toSpareS_id, laws_toEntryS_id, sv] at *; omega) | ((try clear hK K); (repeat' first | apply And.intro | intro _) <;> first | trivial | omega | assumption | solve_by_elim | (apply bd_getD <;> first | assumption | decide) | (apply bd_subL <;> first | assumption | decide) | (simp only [ob, ln, bdv, laws_toSpareS_id, laws_toEntryS_id, sv] at *; first | omega | assumption | (simp_all; done) | grind))), hK _ ?_⟩
  clear hK K
  refine AWP.ret ?_
  subst hR
  (simp only [en, si, ea, gv, sv, hk, reduceCtorEq, reduceIte, Nat.reduceBEq, Nat.reduceAdd, Nat.reduceEqDiff, Nat.reduceLT, Nat.reduceLeDiff, Nat.reduceMul, Nat.reduceSub, BEq.rfl, beq_self_eq_true, Int.reduceToNat]; first | done | trivial | (and_intros <;> first | rfl | trivial | omega | (rw [IntKind.wrap_i64]; omega) | (simp only [ln]; done) | (simp only [ob, ln, bdv, laws_toSpareS_id, laws_toEntryS_id, sv] at *; first | omega | grind) | (left; intro j hj; simp only [pw, Bool.cond_eq_ite, Bool.and_eq_true, decide_eq_true_eq]; (repeat' split) <;> simp [putL, NoBorL, NoBor]) | (intro j hj; simp only [pw, Bool.cond_eq_ite, Bool.and_eq_true, decide_eq_true_eq]; (try rw [subL_getD _ _ _ _ (by first | assumption | omega)]); (try rw [clearL_getD _ _ _ _ (by first | omega | (simp only [ob, ln, bdv] at *; omega))]); (repeat' split) <;> first | rfl | omega | exact simOL_refl _ | (simp_all; done) | (simp_all; rfl) | (simp_all; omega) | (simp_all; exact simOL_refl _) | (simp [putL, NoBorL, NoBor]; done))))

def D_laws_toStore : DF
  | [x0] => some (.agg (eStoreO (laws_toStore (rdG dStore x0))), false, [wG eStore dStore x0, bdStore (rdG dStore x0)])
  | _ => none
def Dz_laws_toStore : DF
  | [x0] => some (.agg (eStoreO (laws_toStore (rdG dStore x0))), true, [wG eStore dStore x0, bdStore (rdG dStore x0)])
  | _ => none
theorem D_laws_toStore_ok : OkD Try.prog 28 D_laws_toStore := by
  intro xs r z ob h ho
  unfold D_laws_toStore at h
  split at h
  · simp only [Option.some.injEq, Prod.mk.injEq] at h
    obtain ⟨rfl, rfl, rfl⟩ := h
    obtain ⟨h0, hb0, _⟩ := ho
    exact Den.sim (laws_toStore_den _ hb0) (simOL_cons (wG_sim h0).1 <| trivial) (noIdL_cons (wG_sim h0).2 <| rfl) rfl
  · cases h

theorem Dz_laws_toStore_ok : OkD Try.prog 28 Dz_laws_toStore := by
  intro xs r z ob h ho
  unfold Dz_laws_toStore at h
  split at h
  · simp only [Option.some.injEq, Prod.mk.injEq] at h
    obtain ⟨rfl, rfl, rfl⟩ := h
    obtain ⟨h0, hb0, _⟩ := ho
    exact Den.sim (laws_toStore_den _ hb0) (simOL_cons (wG_sim h0).1 <| trivial) (noIdL_cons (wG_sim h0).2 <| rfl) rfl
  · cases h
end Go.Ab

namespace Go.Ab
open Go Go.Proofs
theorem laws_toStore_id (a : Store) : laws_toStore a = a := by
  unfold laws_toStore
  simp only [laws_toSpareS_id, laws_toEntryS_id]
end Go.Ab

namespace Go.Ab
open Go Go.Proofs
theorem laws_szSpare_DD : DOk Try.prog (DD []) := DD_nil _
def laws_szSpare (a0 : Spare) (a1 : Int) : Int :=
  (bif decide ((IntKind.wrap .i64 (a1 - (a0.Name.length : Int))) < 0) then (-1) else IntKind.wrap .i64 (a1 - (a0.Name.length : Int)))

theorem laws_szSpare_den (a0 : Spare) (a1 : Int) (hp0 : -1 ≤ a1) (hp1 : a1 ≤ 1048576) : Den Try.prog 112 [.agg (eSpare a0), .int .i64 a1] (.int .i64 (laws_szSpare a0 a1)) := by
  generalize hR : laws_szSpare a0 a1 = r
  unfold laws_szSpare at hR
  refine den_intro G_ok Try.func112 (by kernel_rfl) rfl Try.ntmps112 (by rw [Try.results112]) (by simp) rfl ?_
  intro c hL hc hk
  obtain ⟨hL0, hL1, _⟩ := hL
  have hw0 : bwSpare a0 := Spare_lens a0 hL0
  clear hL0 hL1
  simp only [pars, Nat.zero_add]
  refine AWP.seq ?_
  refine AWP.regS G_ok laws_szSpare_DD hc (by kernel_rfl) (fun K hK => ?_); simp only [ea, gv, sv, reduceCtorEq, reduceIte, Nat.reduceBEq, Nat.reduceAdd, Nat.reduceEqDiff, Nat.reduceLT, Nat.reduceLeDiff, Nat.reduceMul, Nat.reduceSub, BEq.rfl, beq_self_eq_true, Int.reduceToNat]
  first | refine hK _ ?_ | refine ⟨by (first | trivial | omega | (simp only [ob, ln, bdv, sv] at *; omega) | ((try clear hK K); (repeat' first | apply And.intro | intro _) <;> first | trivial | omega | assumption | solve_by_elim | (apply bd_getD <;> first | assumption | decide) | (apply bd_subL <;> first | assumption | decide) | (simp only [ob, ln, bdv, sv] at *; first | omega | assumption | (simp_all; done) | grind))), hK _ ?_⟩
  clear hK K
  refine AWP.seq ?_
  refine AWP.regS G_ok laws_szSpare_DD hc (by kernel_rfl) (fun K hK => ?_); simp only [ea, gv, sv, reduceCtorEq, reduceIte, Nat.reduceBEq, Nat.reduceAdd, Nat.reduceEqDiff, Nat.reduceLT, Nat.reduceLeDiff, Nat.reduceMul, Nat.reduceSub, BEq.rfl, beq_self_eq_true, Int.reduceToNat]
  first | refine hK _ ?_ | refine ⟨by (first | trivial | omega | (simp only [ob, ln, bdv, sv] at *; omega) | ((try clear hK K); (repeat' first | apply And.intro | intro _) <;> first | trivial | omega | assumption | solve_by_elim | (apply bd_getD <;> first | assumption | decide) | (apply bd_subL <;> first | assumption | decide) | (simp only [ob, ln, bdv, sv] at *; first | omega | assumption | (simp_all; done) | grind))), hK _ ?_⟩
  clear hK K
  refine AWP.seq ?_
  refine AWP.seq ?_
  refine AWP.regS G_ok laws_szSpare_DD hc (by kernel_rfl) (fun K hK => ?_); simp only [ea, gv, sv, reduceCtorEq, reduceIte, Nat.reduceBEq, Nat.reduceAdd, Nat.reduceEqDiff, Nat.reduceLT, Nat.reduceLeDiff, Nat.reduceMul, Nat.reduceSub, BEq.rfl, beq_self_eq_true, Int.reduceToNat]
  first | refine hK _ ?_ | refine ⟨by (first | trivial | omega | (simp only [ob, ln, bdv, sv] at *; omega) | ((try clear hK K); (repeat' first | apply And.intro | intro _) <;> first | trivial | omega | assumption | solve_by_elim | (apply bd_getD <;> first | assumption | decide) | (apply bd_subL <;> first | assumption | decide) | (simp only [ob, ln, bdv, sv] at *; first | omega | assumption | (simp_all; done) | grind))), hK _ ?_⟩
  clear hK K
  refine AWP.cond rfl (fun hb => ?_) (fun hb => ?_)
  · first | simp only [hb, cond_true] at hR | (simp only [*] at hb; simp only [hb, cond_true] at hR)
    refine AWP.seq ?_
    refine AWP.regS G_ok laws_szSpare_DD hc (by kernel_rfl) (fun K hK => ?_); simp only [ea, gv, sv, reduceCtorEq, reduceIte, Nat.reduceBEq, Nat.reduceAdd, Nat.reduceEqDiff, Nat.reduceLT, Nat.reduceLeDiff, Nat.reduceMul, Nat.reduceSub, BEq.rfl, beq_self_eq_true, Int.reduceToNat]
    first | refine hK _ ?_ | refine ⟨by (first | trivial | omega | (simp only [ob, ln, bdv, sv] at *; omega) | ((try clear hK K); (repeat' first | apply And.intro | intro _) <;> first | trivial | omega | assumption | solve_by_elim | (apply bd_getD <;> first | assumption | decide) | (apply bd_subL <;> first | assumption | decide) | (simp only [ob, ln, bdv, sv] at *; first | omega | assumption | (simp_all; done) | grind))), hK _ ?_⟩
    clear hK K
    refine AWP.ret ?_
    subst hR
    (simp only [en, si, ea, gv, sv, hk, reduceCtorEq, reduceIte, Nat.reduceBEq, Nat.reduceAdd, Nat.reduceEqDiff, Nat.reduceLT, Nat.reduceLeDiff, Nat.reduceMul, Nat.reduceSub, BEq.rfl, beq_self_eq_true, Int.reduceToNat]; first | done | trivial | (and_intros <;> first | rfl | trivial | omega | (rw [IntKind.wrap_i64]; omega) | (simp only [ln]; done) | (simp only [ob, ln, bdv, sv] at *; first | omega | grind) | (left; intro j hj; simp only [pw, Bool.cond_eq_ite, Bool.and_eq_true, decide_eq_true_eq]; (repeat' split) <;> simp [putL, NoBorL, NoBor]) | (intro j hj; simp only [pw, Bool.cond_eq_ite, Bool.and_eq_true, decide_eq_true_eq]; (try rw [subL_getD _ _ _ _ (by first | assumption | omega)]); (try rw [clearL_getD _ _ _ _ (by first | omega | (simp only [ob, ln, bdv] at *; omega))]); (repeat' split) <;> first | rfl | omega | exact simOL_refl _ | (simp_all; done) | (simp_all; rfl) | (simp_all; omega) | (simp_all; exact simOL_refl _) | (simp [putL, NoBorL, NoBor]; done))))
  · first | simp only [hb, cond_false] at hR | (simp only [*] at hb; simp only [hb, cond_false] at hR)
    refine AWP.skip ?_
    refine AWP.seq ?_
    refine AWP.regS G_ok laws_szSpare_DD hc (by kernel_rfl) (fun K hK => ?_); simp only [ea, gv, sv, reduceCtorEq, reduceIte, Nat.reduceBEq, Nat.reduceAdd, Nat.reduceEqDiff, Nat.reduceLT, Nat.reduceLeDiff, Nat.reduceMul, Nat.reduceSub, BEq.rfl, beq_self_eq_true, Int.reduceToNat]
    first | refine hK _ ?_ | refine ⟨by (first | trivial | omega | (simp only [ob, ln, bdv, sv] at *; omega) | ((try clear hK K); (repeat' first | apply And.intro | intro _) <;> first | trivial | omega | assumption | solve_by_elim | (apply bd_getD <;> first | assumption | decide) | (apply bd_subL <;> first | assumption | decide) | (simp only [ob, ln, bdv, sv] at *; first | omega | assumption | (simp_all; done) | grind))), hK _ ?_⟩
    clear hK K
    refine AWP.ret ?_
    subst hR
    (simp only [en, si, ea, gv, sv, hk, reduceCtorEq, reduceIte, Nat.reduceBEq, Nat.reduceAdd, Nat.reduceEqDiff, Nat.reduceLT, Nat.reduceLeDiff, Nat.reduceMul, Nat.reduceSub, BEq.rfl, beq_self_eq_true, Int.reduceToNat]; first | done | trivial | (and_intros <;> first | rfl | trivial | omega | (rw [IntKind.wrap_i64]; omega) | (simp only [ln]; done) | (simp only [ob, ln, bdv, sv] at *; first | omega | grind) | (left; intro j hj; simp only [pw, Bool.cond_eq_ite, Bool.and_eq_true, decide_eq_true_eq]; (repeat' split) <;> simp [putL, NoBorL, NoBor]) | (intro j hj; simp only [pw, Bool.cond_eq_ite, Bool.and_eq_true, decide_eq_true_eq]; (try rw [subL_getD _ _ _ _ (by first | assumption | omega)]); (try rw [clearL_getD _ _ _ _ (by first | omega | (simp only [ob, ln, bdv] at *; omega))]); (repeat' split) <;> first | rfl | omega | exact simOL_refl _ | (simp_all; done) | (simp_all; rfl) | (simp_all; omega) | (simp_all; exact simOL_refl _) | (simp [putL, NoBorL, NoBor]; done))))

def D_laws_szSpare : DF
  | [x0, x1] => some (.int .i64 (laws_szSpare (rdG dSpare x0) (rdI x1)), false, [wG eSpare dSpare x0, wI .i64 x1, -1 ≤ (rdI x1), (rdI x1) ≤ 1048576])
  | _ => none
theorem D_laws_szSpare_ok : OkD Try.prog 112 D_laws_szSpare := by
  intro xs r z ob h ho
  unfold D_laws_szSpare at h
  split at h
  · simp only [Option.some.injEq, Prod.mk.injEq] at h
    obtain ⟨rfl, rfl, rfl⟩ := h
    obtain ⟨h0, h1, hp0, hp1, _⟩ := ho
    exact Den.sim (laws_szSpare_den _ _ hp0 hp1) (simOL_cons (wG_sim h0).1 <| simOL_cons (wI_sim h1).1 <| trivial) (noIdL_cons (wG_sim h0).2 <| noIdL_cons (wI_sim h1).2 <| rfl) rfl
  · cases h
end Go.Ab

namespace Go.Ab
open Go Go.Proofs
theorem laws_szSpare_le (x : Spare) (n : Int) (h0 : -1 ≤ n) (h1 : n ≤ 1048576) (hx : bwSpare x) : -1 ≤ laws_szSpare x n ∧ laws_szSpare x n ≤ n := by
  have hx2 : x.Name.length < 9223372036854775808 := hx
  unfold laws_szSpare
  rw [IntKind.wrap_i64]
  cases hd : decide ((n - (x.Name.length : Int) + 9223372036854775808) % 18446744073709551616 - 9223372036854775808 < 0) with
  | true => simp; omega
  | false =>
    simp only [cond_false]
    have := of_decide_eq_false hd
    omega
theorem laws_szSpare_bd (x : Spare) (n : Int) (h0 : -1 ≤ n) (h1 : n ≤ 1048576) (hx : bwSpare x) (h : ¬ laws_szSpare x n < 0) : bdSpare x := by
  have hx2 : x.Name.length < 9223372036854775808 := hx
  unfold laws_szSpare at h
  rw [IntKind.wrap_i64] at h
  cases hd : decide ((n - (x.Name.length : Int) + 9223372036854775808) % 18446744073709551616 - 9223372036854775808 < 0) with
  | true => rw [hd] at h; simp at h
  | false =>
    have := of_decide_eq_false hd
    show x.Name.length < 1099511627776
    omega
end Go.Ab

namespace Go.Ab
open Go Go.Proofs
theorem laws_szSpareS_DD : DOk Try.prog (DD [(112, dP D_laws_szSpare)]) := DD_cons D_laws_szSpare_ok.e <| DD_nil _
def laws_szSpareS_b1 (a0 : (List Spare)) (a1 : Int) (i1 : Nat) (s1 : Int) : Except (Int) (Int) :=
  (bif decide ((laws_szSpare (a0.getD i1 default) s1) < 0) then .error (-1) else .ok (laws_szSpare (a0.getD i1 default) s1))

def laws_szSpareS (a0 : (List Spare)) (a1 : Int) : Int :=
  (bif decide ((IntKind.wrap .i64 (a1 - (a0.length : Int))) < 0) then (-1) else (match loopR (laws_szSpareS_b1 a0 a1) (a0.length - 0) 0 (IntKind.wrap .i64 (a1 - (a0.length : Int))) with | .error e => e | .ok s1 => s1))

theorem laws_szSpareS_den (a0 : (List Spare)) (a1 : Int) (hp0 : -1 ≤ a1) (hp1 : a1 ≤ 1048576) : Den Try.prog 67 [encL 3 eSpare a0, .int .i64 a1] (.int .i64 (laws_szSpareS a0 a1)) := by
  generalize hR : laws_szSpareS a0 a1 = r
  unfold laws_szSpareS at hR
  refine den_intro G_ok Try.func67 (by kernel_rfl) rfl Try.ntmps67 (by rw [Try.results67]) (by simp) rfl ?_
  intro c hL hc hk
  obtain ⟨hL0, hL1, _⟩ := hL
  have hw0 : a0.length < 9223372036854775808 := Nat.lt_succ_of_le (lens_encL hL0).1
  have hw1 : ∀ v ∈ a0, bwSpare v := fun v hv => Spare_lens v ((lens_encL hL0).2 v hv)
  clear hL0 hL1
  simp only [pars, Nat.zero_add]
  refine AWP.seq ?_
  refine AWP.regS G_ok laws_szSpareS_DD hc (by kernel_rfl) (fun K hK => ?_); simp only [ea, gv, sv, D_laws_szSpare, reduceCtorEq, reduceIte, Nat.reduceBEq, Nat.reduceAdd, Nat.reduceEqDiff, Nat.reduceLT, Nat.reduceLeDiff, Nat.reduceMul, Nat.reduceSub, BEq.rfl, beq_self_eq_true, Int.reduceToNat]
  first | refine hK _ ?_ | refine ⟨by (first | trivial | omega | (simp only [ob, ln, bdv, sv] at *; omega) | ((try clear hK K); (repeat' first | apply And.intro | intro _) <;> first | trivial | omega | assumption | solve_by_elim | (apply bd_getD <;> first | assumption | decide) | (apply bd_subL <;> first | assumption | decide) | (simp only [ob, ln, bdv, sv] at *; first | omega | assumption | (simp_all; done) | grind))), hK _ ?_⟩
  clear hK K
  refine AWP.seq ?_
  refine AWP.regS G_ok laws_szSpareS_DD hc (by kernel_rfl) (fun K hK => ?_); simp only [ea, gv, sv, D_laws_szSpare, reduceCtorEq, reduceIte, Nat.reduceBEq, Nat.reduceAdd, Nat.reduceEqDiff, Nat.reduceLT, Nat.reduceLeDiff, Nat.reduceMul, Nat.reduceSub, BEq.rfl, beq_self_eq_true, Int.reduceToNat]
  first | refine hK _ ?_ | refine ⟨by (first | trivial | omega | (simp only [ob, ln, bdv, sv] at *; omega) | ((try clear hK K); (repeat' first | apply And.intro | intro _) <;> first | trivial | omega | assumption | solve_by_elim | (apply bd_getD <;> first | assumption | decide) | (apply bd_subL <;> first | assumption | decide) | (simp only [ob, ln, bdv, sv] at *; first | omega | assumption | (simp_all; done) | grind))), hK _ ?_⟩
  clear hK K
  refine AWP.seq ?_
  refine AWP.seq ?_
  refine AWP.regS G_ok laws_szSpareS_DD hc (by kernel_rfl) (fun K hK => ?_); simp only [ea, gv, sv, D_laws_szSpare, reduceCtorEq, reduceIte, Nat.reduceBEq, Nat.reduceAdd, Nat.reduceEqDiff, Nat.reduceLT, Nat.reduceLeDiff, Nat.reduceMul, Nat.reduceSub, BEq.rfl, beq_self_eq_true, Int.reduceToNat]
  first | refine hK _ ?_ | refine ⟨by (first | trivial | omega | (simp only [ob, ln, bdv, sv] at *; omega) | ((try clear hK K); (repeat' first | apply And.intro | intro _) <;> first | trivial | omega | assumption | solve_by_elim | (apply bd_getD <;> first | assumption | decide) | (apply bd_subL <;> first | assumption | decide) | (simp only [ob, ln, bdv, sv] at *; first | omega | assumption | (simp_all; done) | grind))), hK _ ?_⟩
  clear hK K
  refine AWP.cond rfl (fun hb => ?_) (fun hb => ?_)
  · first | simp only [hb, cond_true] at hR | (simp only [*] at hb; simp only [hb, cond_true] at hR)
    refine AWP.seq ?_
    refine AWP.regS G_ok laws_szSpareS_DD hc (by kernel_rfl) (fun K hK => ?_); simp only [ea, gv, sv, D_laws_szSpare, reduceCtorEq, reduceIte, Nat.reduceBEq, Nat.reduceAdd, Nat.reduceEqDiff, Nat.reduceLT, Nat.reduceLeDiff, Nat.reduceMul, Nat.reduceSub, BEq.rfl, beq_self_eq_true, Int.reduceToNat]
    first | refine hK _ ?_ | refine ⟨by (first | trivial | omega | (simp only [ob, ln, bdv, sv] at *; omega) | ((try clear hK K); (repeat' first | apply And.intro | intro _) <;> first | trivial | omega | assumption | solve_by_elim | (apply bd_getD <;> first | assumption | decide) | (apply bd_subL <;> first | assumption | decide) | (simp only [ob, ln, bdv, sv] at *; first | omega | assumption | (simp_all; done) | grind))), hK _ ?_⟩
    clear hK K
    refine AWP.ret ?_
    subst hR
    (simp only [en, si, ea, gv, sv, hk, reduceCtorEq, reduceIte, Nat.reduceBEq, Nat.reduceAdd, Nat.reduceEqDiff, Nat.reduceLT, Nat.reduceLeDiff, Nat.reduceMul, Nat.reduceSub, BEq.rfl, beq_self_eq_true, Int.reduceToNat]; first | done | trivial | (and_intros <;> first | rfl | trivial | omega | (rw [IntKind.wrap_i64]; omega) | (simp only [ln]; done) | (simp only [ob, ln, bdv, sv] at *; first | omega | grind) | (left; intro j hj; simp only [pw, Bool.cond_eq_ite, Bool.and_eq_true, decide_eq_true_eq]; (repeat' split) <;> simp [putL, NoBorL, NoBor]) | (intro j hj; simp only [pw, Bool.cond_eq_ite, Bool.and_eq_true, decide_eq_true_eq]; (try rw [subL_getD _ _ _ _ (by first | assumption | omega)]); (try rw [clearL_getD _ _ _ _ (by first | omega | (simp only [ob, ln, bdv] at *; omega))]); (repeat' split) <;> first | rfl | omega | exact simOL_refl _ | (simp_all; done) | (simp_all; rfl) | (simp_all; omega) | (simp_all; exact simOL_refl _) | (simp [putL, NoBorL, NoBor]; done))))
  · first | simp only [hb, cond_false] at hR | (simp only [*] at hb; simp only [hb, cond_false] at hR)
    refine AWP.skip ?_
    refine AWP.seq ?_
    refine AWP.seq ?_
    refine AWP.regS G_ok laws_szSpareS_DD hc (by kernel_rfl) (fun K hK => ?_); simp only [ea, gv, sv, D_laws_szSpare, reduceCtorEq, reduceIte, Nat.reduceBEq, Nat.reduceAdd, Nat.reduceEqDiff, Nat.reduceLT, Nat.reduceLeDiff, Nat.reduceMul, Nat.reduceSub, BEq.rfl, beq_self_eq_true, Int.reduceToNat]
    first | refine hK _ ?_ | refine ⟨by (first | trivial | omega | (simp only [ob, ln, bdv, sv] at *; omega) | ((try clear hK K); (repeat' first | apply And.intro | intro _) <;> first | trivial | omega | assumption | solve_by_elim | (apply bd_getD <;> first | assumption | decide) | (apply bd_subL <;> first | assumption | decide) | (simp only [ob, ln, bdv, sv] at *; first | omega | assumption | (simp_all; done) | grind))), hK _ ?_⟩
    clear hK K
    refine AWP.block ?_
    generalize hz1 : loopR (laws_szSpareS_b1 a0 a1) (a0.length - 0) 0 (IntKind.wrap .i64 (a1 - (a0.length : Int))) = z1 at hR
    refine AWP.range (laws_szSpareS_b1 a0 a1) (fun i1 s1 => ⟨[(0, encL 3 eSpare a0), (1, .int .i64 s1), (5, .int .i64 (i1 : Int))], []⟩) (fun i1 s1 => -1 ≤ s1 ∧ s1 ≤ 1048576) (a0.length) 0 (IntKind.wrap .i64 (a1 - (a0.length : Int))) [] hz1 (by (first | trivial | omega | (simp only [ob, ln, bdv, sv] at *; omega) | ((try clear hK K); (repeat' first | apply And.intro | intro _) <;> first | trivial | omega | assumption | solve_by_elim | (apply bd_getD <;> first | assumption | decide) | (apply bd_subL <;> first | assumption | decide) | (simp only [ob, ln, bdv, sv] at *; first | omega | assumption | (simp_all; done) | grind)))) (by (first | trivial | (and_intros <;> simp only [ln] <;> omega) | (and_intros <;> simp only [ob, ln] at * <;> omega) | (and_intros <;> first | trivial | omega | assumption | (apply bd_set <;> first | assumption | (apply bd_getD <;> first | assumption | decide)) | (apply bd_app <;> first | assumption | (apply bd_getD <;> first | assumption | decide)) | (simp only [ob, ln, bdv, sv] at *; omega) | (simp; done)))) (by (simp only [si, ea, gv, sv, hk, reduceCtorEq, reduceIte, Nat.reduceBEq, Nat.reduceAdd, Nat.reduceEqDiff, Nat.reduceLT, Nat.reduceLeDiff, Nat.reduceMul, Nat.reduceSub, BEq.rfl, beq_self_eq_true, Int.reduceToNat]; first | done | trivial | (and_intros <;> first | rfl | trivial | omega | (rw [IntKind.wrap_i64]; omega) | (simp only [ln]; done) | (simp only [ob, ln, bdv, sv] at *; first | omega | grind) | (left; intro j hj; simp only [pw, Bool.cond_eq_ite, Bool.and_eq_true, decide_eq_true_eq]; (repeat' split) <;> simp [putL, NoBorL, NoBor]) | (intro j hj; simp only [pw, Bool.cond_eq_ite, Bool.and_eq_true, decide_eq_true_eq]; (try rw [subL_getD _ _ _ _ (by first | assumption | omega)]); (try rw [clearL_getD _ _ _ _ (by first | omega | (simp only [ob, ln, bdv] at *; omega))]); (repeat' split) <;> first | rfl | omega | exact simOL_refl _ | (simp_all; done) | (simp_all; rfl) | (simp_all; omega) | (simp_all; exact simOL_refl _) | (simp [putL, NoBorL, NoBor]; done))))) ?_
    clear hz1
    intro i1 s1 hi1 hW1 hz1
    refine AWP.seq ?_
    refine AWP.seq ?_
    refine AWP.regS G_ok laws_szSpareS_DD hc (by kernel_rfl) (fun K hK => ?_); simp only [ea, gv, sv, D_laws_szSpare, reduceCtorEq, reduceIte, Nat.reduceBEq, Nat.reduceAdd, Nat.reduceEqDiff, Nat.reduceLT, Nat.reduceLeDiff, Nat.reduceMul, Nat.reduceSub, BEq.rfl, beq_self_eq_true, Int.reduceToNat]
    first | refine hK _ ?_ | refine ⟨by (first | trivial | omega | (simp only [ob, ln, bdv, sv] at *; omega) | ((try clear hK K); (repeat' first | apply And.intro | intro _) <;> first | trivial | omega | assumption | solve_by_elim | (apply bd_getD <;> first | assumption | decide) | (apply bd_subL <;> first | assumption | decide) | (simp only [ob, ln, bdv, sv] at *; first | omega | assumption | (simp_all; done) | grind))), hK _ ?_⟩
    clear hK K
    refine AWP.cond rfl (fun hb => ?_) (fun hb => ?_)
    · have hlt1 : i1 < a0.length := by (first | trivial | omega | (simp only [ob, ln, bdv, sv] at *; omega) | ((try clear hK K); (repeat' first | apply And.intro | intro _) <;> first | trivial | omega | assumption | solve_by_elim | (apply bd_getD <;> first | assumption | decide) | (apply bd_subL <;> first | assumption | decide) | (simp only [ob, ln, bdv, sv] at *; first | omega | assumption | (simp_all; done) | grind)))
      rw [loopR_lt hlt1] at hz1; simp only [laws_szSpareS_b1] at hz1
      refine AWP.skip ?_
      refine AWP.seq ?_
      refine AWP.block ?_
      refine AWP.seq ?_
      refine AWP.regS G_ok laws_szSpareS_DD hc (by kernel_rfl) (fun K hK => ?_); simp only [ea, gv, sv, D_laws_szSpare, reduceCtorEq, reduceIte, Nat.reduceBEq, Nat.reduceAdd, Nat.reduceEqDiff, Nat.reduceLT, Nat.reduceLeDiff, Nat.reduceMul, Nat.reduceSub, BEq.rfl, beq_self_eq_true, Int.reduceToNat]
      first | refine hK _ ?_ | refine ⟨by (first | trivial | omega | (simp only [ob, ln, bdv, sv] at *; omega) | ((try clear hK K); (repeat' first | apply And.intro | intro _) <;> first | trivial | omega | assumption | solve_by_elim | (apply bd_getD <;> first | assumption | decide) | (apply bd_subL <;> first | assumption | decide) | (simp only [ob, ln, bdv, sv] at *; first | omega | assumption | (simp_all; done) | grind))), hK _ ?_⟩
      clear hK K
      refine AWP.seq ?_
      refine AWP.regS G_ok laws_szSpareS_DD hc (by kernel_rfl) (fun K hK => ?_); simp only [ea, gv, sv, D_laws_szSpare, reduceCtorEq, reduceIte, Nat.reduceBEq, Nat.reduceAdd, Nat.reduceEqDiff, Nat.reduceLT, Nat.reduceLeDiff, Nat.reduceMul, Nat.reduceSub, BEq.rfl, beq_self_eq_true, Int.reduceToNat]
      first | refine hK _ ?_ | refine ⟨by (first | trivial | omega | (simp only [ob, ln, bdv, sv] at *; omega) | ((try clear hK K); (repeat' first | apply And.intro | intro _) <;> first | trivial | omega | assumption | solve_by_elim | (apply bd_getD <;> first | assumption | decide) | (apply bd_subL <;> first | assumption | decide) | (simp only [ob, ln, bdv, sv] at *; first | omega | assumption | (simp_all; done) | grind))), hK _ ?_⟩
      clear hK K
      refine AWP.cond rfl (fun hb => ?_) (fun hb => ?_)
      · first | simp only [hb, cond_true] at hz1 | (simp only [*] at hb; simp only [hb, cond_true] at hz1)
        refine AWP.seq ?_
        refine AWP.regS G_ok laws_szSpareS_DD hc (by kernel_rfl) (fun K hK => ?_); simp only [ea, gv, sv, D_laws_szSpare, reduceCtorEq, reduceIte, Nat.reduceBEq, Nat.reduceAdd, Nat.reduceEqDiff, Nat.reduceLT, Nat.reduceLeDiff, Nat.reduceMul, Nat.reduceSub, BEq.rfl, beq_self_eq_true, Int.reduceToNat]
        first | refine hK _ ?_ | refine ⟨by (first | trivial | omega | (simp only [ob, ln, bdv, sv] at *; omega) | ((try clear hK K); (repeat' first | apply And.intro | intro _) <;> first | trivial | omega | assumption | solve_by_elim | (apply bd_getD <;> first | assumption | decide) | (apply bd_subL <;> first | assumption | decide) | (simp only [ob, ln, bdv, sv] at *; first | omega | assumption | (simp_all; done) | grind))), hK _ ?_⟩
        clear hK K
        refine AWP.ret ?_
        subst hz1
        dsimp only at hR
        subst hR
        (simp only [en, si, ea, gv, sv, hk, reduceCtorEq, reduceIte, Nat.reduceBEq, Nat.reduceAdd, Nat.reduceEqDiff, Nat.reduceLT, Nat.reduceLeDiff, Nat.reduceMul, Nat.reduceSub, BEq.rfl, beq_self_eq_true, Int.reduceToNat]; first | done | trivial | (and_intros <;> first | rfl | trivial | omega | (rw [IntKind.wrap_i64]; omega) | (simp only [ln]; done) | (simp only [ob, ln, bdv, sv] at *; first | omega | grind) | (left; intro j hj; simp only [pw, Bool.cond_eq_ite, Bool.and_eq_true, decide_eq_true_eq]; (repeat' split) <;> simp [putL, NoBorL, NoBor]) | (intro j hj; simp only [pw, Bool.cond_eq_ite, Bool.and_eq_true, decide_eq_true_eq]; (try rw [subL_getD _ _ _ _ (by first | assumption | omega)]); (try rw [clearL_getD _ _ _ _ (by first | omega | (simp only [ob, ln, bdv] at *; omega))]); (repeat' split) <;> first | rfl | omega | exact simOL_refl _ | (simp_all; done) | (simp_all; rfl) | (simp_all; omega) | (simp_all; exact simOL_refl _) | (simp [putL, NoBorL, NoBor]; done))))
      · first | simp only [hb, cond_false] at hz1 | (simp only [*] at hb; simp only [hb, cond_false] at hz1)
        refine AWP.skip ?_
        refine AWP.regS G_ok laws_szSpareS_DD hc (by kernel_rfl) (fun K hK => ?_); simp only [ea, gv, sv, D_laws_szSpare, reduceCtorEq, reduceIte, Nat.reduceBEq, Nat.reduceAdd, Nat.reduceEqDiff, Nat.reduceLT, Nat.reduceLeDiff, Nat.reduceMul, Nat.reduceSub, BEq.rfl, beq_self_eq_true, Int.reduceToNat]
        first | refine hK _ ?_ | refine ⟨by (first | trivial | omega | (simp only [ob, ln, bdv, sv] at *; omega) | ((try clear hK K); (repeat' first | apply And.intro | intro _) <;> first | trivial | omega | assumption | solve_by_elim | (apply bd_getD <;> first | assumption | decide) | (apply bd_subL <;> first | assumption | decide) | (simp only [ob, ln, bdv, sv] at *; first | omega | assumption | (simp_all; done) | grind))), hK _ ?_⟩
        clear hK K
        exact ⟨_, [], hlt1, by (have h9 := laws_szSpare_le (a0.getD i1 default) s1 (by omega) (by omega) (bd_getD (by assumption) (by decide) _); simp only [ob] at hb; omega), hz1, by (simp only [si, ea, gv, sv, hk, reduceCtorEq, reduceIte, Nat.reduceBEq, Nat.reduceAdd, Nat.reduceEqDiff, Nat.reduceLT, Nat.reduceLeDiff, Nat.reduceMul, Nat.reduceSub, BEq.rfl, beq_self_eq_true, Int.reduceToNat]; first | done | trivial | (and_intros <;> first | rfl | trivial | omega | (rw [IntKind.wrap_i64]; omega) | (simp only [ln]; done) | (simp only [ob, ln, bdv, sv] at *; first | omega | grind) | (left; intro j hj; simp only [pw, Bool.cond_eq_ite, Bool.and_eq_true, decide_eq_true_eq]; (repeat' split) <;> simp [putL, NoBorL, NoBor]) | (intro j hj; simp only [pw, Bool.cond_eq_ite, Bool.and_eq_true, decide_eq_true_eq]; (try rw [subL_getD _ _ _ _ (by first | assumption | omega)]); (try rw [clearL_getD _ _ _ _ (by first | omega | (simp only [ob, ln, bdv] at *; omega))]); (repeat' split) <;> first | rfl | omega | exact simOL_refl _ | (simp_all; done) | (simp_all; rfl) | (simp_all; omega) | (simp_all; exact simOL_refl _) | (simp [putL, NoBorL, NoBor]; done))))⟩
    · obtain rfl : i1 = a0.length := by (first | trivial | omega | (simp only [ob, ln, bdv, sv] at *; omega) | ((try clear hK K); (repeat' first | apply And.intro | intro _) <;> first | trivial | omega | assumption | solve_by_elim | (apply bd_getD <;> first | assumption | decide) | (apply bd_subL <;> first | assumption | decide) | (simp only [ob, ln, bdv, sv] at *; first | omega | assumption | (simp_all; done) | grind)))
      rw [loopR_ge (Nat.le_refl _)] at hz1; subst hz1; dsimp only at hR
      refine AWP.exit ?_; refine exitTo_here ?_
      refine AWP.seq ?_
      refine AWP.regS G_ok laws_szSpareS_DD hc (by kernel_rfl) (fun K hK => ?_); simp only [ea, gv, sv, D_laws_szSpare, reduceCtorEq, reduceIte, Nat.reduceBEq, Nat.reduceAdd, Nat.reduceEqDiff, Nat.reduceLT, Nat.reduceLeDiff, Nat.reduceMul, Nat.reduceSub, BEq.rfl, beq_self_eq_true, Int.reduceToNat]
      first | refine hK _ ?_ | refine ⟨by (first | trivial | omega | (simp only [ob, ln, bdv, sv] at *; omega) | ((try clear hK K); (repeat' first | apply And.intro | intro _) <;> first | trivial | omega | assumption | solve_by_elim | (apply bd_getD <;> first | assumption | decide) | (apply bd_subL <;> first | assumption | decide) | (simp only [ob, ln, bdv, sv] at *; first | omega | assumption | (simp_all; done) | grind))), hK _ ?_⟩
      clear hK K
      refine AWP.ret ?_
      subst hR
      (simp only [en, si, ea, gv, sv, hk, reduceCtorEq, reduceIte, Nat.reduceBEq, Nat.reduceAdd, Nat.reduceEqDiff, Nat.reduceLT, Nat.reduceLeDiff, Nat.reduceMul, Nat.reduceSub, BEq.rfl, beq_self_eq_true, Int.reduceToNat]; first | done | trivial | (and_intros <;> first | rfl | trivial | omega | (rw [IntKind.wrap_i64]; omega) | (simp only [ln]; done) | (simp only [ob, ln, bdv, sv] at *; first | omega | grind) | (left; intro j hj; simp only [pw, Bool.cond_eq_ite, Bool.and_eq_true, decide_eq_true_eq]; (repeat' split) <;> simp [putL, NoBorL, NoBor]) | (intro j hj; simp only [pw, Bool.cond_eq_ite, Bool.and_eq_true, decide_eq_true_eq]; (try rw [subL_getD _ _ _ _ (by first | assumption | omega)]); (try rw [clearL_getD _ _ _ _ (by first | omega | (simp only [ob, ln, bdv] at *; omega))]); (repeat' split) <;> first | rfl | omega | exact simOL_refl _ | (simp_all; done) | (simp_all; rfl) | (simp_all; omega) | (simp_all; exact simOL_refl _) | (simp [putL, NoBorL, NoBor]; done))))

def D_laws_szSpareS : DF
  | [x0, x1] => some (.int .i64 (laws_szSpareS (rdL dSpare x0) (rdI x1)), false, [wL 3 eSpare dSpare x0, wI .i64 x1, -1 ≤ (rdI x1), (rdI x1) ≤ 1048576])
  | _ => none
theorem D_laws_szSpareS_ok : OkD Try.prog 67 D_laws_szSpareS := by
  intro xs r z ob h ho
  unfold D_laws_szSpareS at h
  split at h
  · simp only [Option.some.injEq, Prod.mk.injEq] at h
    obtain ⟨rfl, rfl, rfl⟩ := h
    obtain ⟨h0, h1, hp0, hp1, _⟩ := ho
    exact Den.sim (laws_szSpareS_den _ _ hp0 hp1) (simOL_cons (wL_sim h0).1 <| simOL_cons (wI_sim h1).1 <| trivial) (noIdL_cons (wL_sim h0).2 <| noIdL_cons (wI_sim h1).2 <| rfl) rfl
  · cases h
end Go.Ab

namespace Go.Ab
open Go Go.Proofs
theorem laws_szEntry_DD : DOk Try.prog (DD []) := DD_nil _
def laws_szEntry (a0 : Entry) (a1 : Int) : Int :=
  (bif decide ((IntKind.wrap .i64 (a1 - (a0.Item.length : Int))) < 0) then (-1) else IntKind.wrap .i64 (a1 - (a0.Item.length : Int)))

theorem laws_szEntry_den (a0 : Entry) (a1 : Int) (hp0 : -1 ≤ a1) (hp1 : a1 ≤ 1048576) : Den Try.prog 113 [.agg (eEntry a0), .int .i64 a1] (.int .i64 (laws_szEntry a0 a1)) := by
  generalize hR : laws_szEntry a0 a1 = r
  unfold laws_szEntry at hR
  refine den_intro G_ok Try.func113 (by kernel_rfl) rfl Try.ntmps113 (by rw [Try.results113]) (by simp) rfl ?_
  intro c hL hc hk
  obtain ⟨hL0, hL1, _⟩ := hL
  have hw0 : bwEntry a0 := Entry_lens a0 hL0
  clear hL0 hL1
  simp only [pars, Nat.zero_add]
  refine AWP.seq ?_
  refine AWP.regS G_ok laws_szEntry_DD hc (by kernel_rfl) (fun K hK => ?_); simp only [ea, gv, sv, reduceCtorEq, reduceIte, Nat.reduceBEq, Nat.reduceAdd, Nat.reduceEqDiff, Nat.reduceLT, Nat.reduceLeDiff, Nat.reduceMul, Nat.reduceSub, BEq.rfl, beq_self_eq_true, Int.reduceToNat]
  first | refine hK _ ?_ | refine ⟨by (first | trivial | omega | (simp only [ob, ln, bdv, sv] at *; omega) | ((try clear hK K); (repeat' first | apply And.intro | intro _) <;> first | trivial | omega | assumption | solve_by_elim | (apply bd_getD <;> first | assumption | decide) | (apply bd_subL <;> first | assumption | decide) | (simp only [ob, ln, bdv, sv] at *; first | omega | assumption | (simp_all; done) | grind))), hK _ ?_⟩
  clear hK K
  refine AWP.seq ?_
  refine AWP.regS G_ok laws_szEntry_DD hc (by kernel_rfl) (fun K hK => ?_); simp only [ea, gv, sv, reduceCtorEq, reduceIte, Nat.reduceBEq, Nat.reduceAdd, Nat.reduceEqDiff, Nat.reduceLT, Nat.reduceLeDiff, Nat.reduceMul, Nat.reduceSub, BEq.rfl, beq_self_eq_true, Int.reduceToNat]
  first | refine hK _ ?_ | refine ⟨by (first | trivial | omega | (simp only [ob, ln, bdv, sv] at *; omega) | ((try clear hK K); (repeat' first | apply And.intro | intro _) <;> first | trivial | omega | assumption | solve_by_elim | (apply bd_getD <;> first | assumption | decide) | (apply bd_subL <;> first | assumption | decide) | (simp only [ob, ln, bdv, sv] at *; first | omega | assumption | (simp_all; done) | grind))), hK _ ?_⟩
  clear hK K
  refine AWP.seq ?_
  refine AWP.seq ?_
  refine AWP.regS G_ok laws_szEntry_DD hc (by kernel_rfl) (fun K hK => ?_); simp only [ea, gv, sv, reduceCtorEq, reduceIte, Nat.reduceBEq, Nat.reduceAdd, Nat.reduceEqDiff, Nat.reduceLT, Nat.reduceLeDiff, Nat.reduceMul, Nat.reduceSub, BEq.rfl, beq_self_eq_true, Int.reduceToNat]
  first | refine hK _ ?_ | refine ⟨by (first | trivial | omega | (simp only [ob, ln, bdv, sv] at *; omega) | ((try clear hK K); (repeat' first | apply And.intro | intro _) <;> first | trivial | omega | assumption | solve_by_elim | (apply bd_getD <;> first | assumption | decide) | (apply bd_subL <;> first | assumption | decide) | (simp only [ob, ln, bdv, sv] at *; first | omega | assumption | (simp_all; done) | grind))), hK _ ?_⟩
  clear hK K
  refine AWP.cond rfl (fun hb => ?_) (fun hb => ?_)
  · first | simp only [hb, cond_true] at hR | (simp only [*] at hb; simp only [hb, cond_true] at hR)
    refine AWP.seq ?_
    refine AWP.regS G_ok laws_szEntry_DD hc (by kernel_rfl) (fun K hK => ?_); simp only [ea, gv, sv, reduceCtorEq, reduceIte, Nat.reduceBEq, Nat.reduceAdd, Nat.reduceEqDiff, Nat.reduceLT, Nat.reduceLeDiff, Nat.reduceMul, Nat.reduceSub, BEq.rfl, beq_self_eq_true, Int.reduceToNat]
    first | refine hK _ ?_ | refine ⟨by (first | trivial | omega | (simp only [ob, ln, bdv, sv] at *; omega) | ((try clear hK K); (repeat' first | apply And.intro | intro _) <;> first | trivial | omega | assumption | solve_by_elim | (apply bd_getD <;> first | assumption | decide) | (apply bd_subL <;> first | assumption | decide) | (simp only [ob, ln, bdv, sv] at *; first | omega | assumption | (simp_all; done) | grind))), hK _ ?_⟩
    clear hK K
    refine AWP.ret ?_
    subst hR
    (simp only [en, si, ea, gv, sv, hk, reduceCtorEq, reduceIte, Nat.reduceBEq, Nat.reduceAdd, Nat.reduceEqDiff, Nat.reduceLT, Nat.reduceLeDiff, Nat.reduceMul, Nat.reduceSub, BEq.rfl, beq_self_eq_true, Int.reduceToNat]; first | done | trivial | (and_intros <;> first | rfl | trivial | omega | (rw [IntKind.wrap_i64]; omega) | (simp only [ln]; done) | (simp only [ob, ln, bdv, sv] at *; first | omega | grind) | (left; intro j hj; simp only [pw, Bool.cond_eq_ite, Bool.and_eq_true, decide_eq_true_eq]; (repeat' split) <;> simp [putL, NoBorL, NoBor]) | (intro j hj; simp only [pw, Bool.cond_eq_ite, Bool.and_eq_true, decide_eq_true_eq]; (try rw [subL_getD _ _ _ _ (by first | assumption | omega)]); (try rw [clearL_getD _ _ _ _ (by first | omega | (simp only [ob, ln, bdv] at *; omega))]); (repeat' split) <;> first | rfl | omega | exact simOL_refl _ | (simp_all; done) | (simp_all; rfl) | (simp_all; omega) | (simp_all; exact simOL_refl _) | (simp [putL, NoBorL, NoBor]; done))))
  · first | simp only [hb, cond_false] at hR | (simp only [*] at hb; simp only [hb, cond_false] at hR)
    refine AWP.skip ?_
    refine AWP.seq ?_
    refine AWP.regS G_ok laws_szEntry_DD hc (by kernel_rfl) (fun K hK => ?_); simp only [ea, gv, sv, reduceCtorEq, reduceIte, Nat.reduceBEq, Nat.reduceAdd, Nat.reduceEqDiff, Nat.reduceLT, Nat.reduceLeDiff, Nat.reduceMul, Nat.reduceSub, BEq.rfl, beq_self_eq_true, Int.reduceToNat]
    first | refine hK _ ?_ | refine ⟨by (first | trivial | omega | (simp only [ob, ln, bdv, sv] at *; omega) | ((try clear hK K); (repeat' first | apply And.intro | intro _) <;> first | trivial | omega | assumption | solve_by_elim | (apply bd_getD <;> first | assumption | decide) | (apply bd_subL <;> first | assumption | decide) | (simp only [ob, ln, bdv, sv] at *; first | omega | assumption | (simp_all; done) | grind))), hK _ ?_⟩
    clear hK K
    refine AWP.ret ?_
    subst hR
    (simp only [en, si, ea, gv, sv, hk, reduceCtorEq, reduceIte, Nat.reduceBEq, Nat.reduceAdd, Nat.reduceEqDiff, Nat.reduceLT, Nat.reduceLeDiff, Nat.reduceMul, Nat.reduceSub, BEq.rfl, beq_self_eq_true, Int.reduceToNat]; first | done | trivial | (and_intros <;> first | rfl | trivial | omega | (rw [IntKind.wrap_i64]; omega) | (simp only [ln]; done) | (simp only [ob, ln, bdv, sv] at *; first | omega | grind) | (left; intro j hj; simp only [pw, Bool.cond_eq_ite, Bool.and_eq_true, decide_eq_true_eq]; (repeat' split) <;> simp [putL, NoBorL, NoBor]) | (intro j hj; simp only [pw, Bool.cond_eq_ite, Bool.and_eq_true, decide_eq_true_eq]; (try rw [subL_getD _ _ _ _ (by first | assumption | omega)]); (try rw [clearL_getD _ _ _ _ (by first | omega | (simp only [ob, ln, bdv] at *; omega))]); (repeat' split) <;> first | rfl | omega | exact simOL_refl _ | (simp_all; done) | (simp_all; rfl) | (simp_all; omega) | (simp_all; exact simOL_refl _) | (simp [putL, NoBorL, NoBor]; done))))

def D_laws_szEntry : DF
  | [x0, x1] => some (.int .i64 (laws_szEntry (rdG dEntry x0) (rdI x1)), false, [wG eEntry dEntry x0, wI .i64 x1, -1 ≤ (rdI x1), (rdI x1) ≤ 1048576])
  | _ => none
theorem D_laws_szEntry_ok : OkD Try.prog 113 D_laws_szEntry := by
  intro xs r z ob h ho
  unfold D_laws_szEntry at h
  split at h
  · simp only [Option.some.injEq, Prod.mk.injEq] at h
    obtain ⟨rfl, rfl, rfl⟩ := h
    obtain ⟨h0, h1, hp0, hp1, _⟩ := ho
    exact Den.sim (laws_szEntry_den _ _ hp0 hp1) (simOL_cons (wG_sim h0).1 <| simOL_cons (wI_sim h1).1 <| trivial) (noIdL_cons (wG_sim h0).2 <| noIdL_cons (wI_sim h1).2 <| rfl) rfl
  · cases h
end Go.Ab

namespace Go.Ab
open Go Go.Proofs
theorem laws_szEntry_le (x : Entry) (n : Int) (h0 : -1 ≤ n) (h1 : n ≤ 1048576) (hx : bwEntry x) : -1 ≤ laws_szEntry x n ∧ laws_szEntry x n ≤ n := by
  have hx2 : x.Item.length < 9223372036854775808 := hx
  unfold laws_szEntry
  rw [IntKind.wrap_i64]
  cases hd : decide ((n - (x.Item.length : Int) + 9223372036854775808) % 18446744073709551616 - 9223372036854775808 < 0) with
  | true => simp; omega
  | false =>
    simp only [cond_false]
    have := of_decide_eq_false hd
    omega
theorem laws_szEntry_bd (x : Entry) (n : Int) (h0 : -1 ≤ n) (h1 : n ≤ 1048576) (hx : bwEntry x) (h : ¬ laws_szEntry x n < 0) : bdEntry x := by
  have hx2 : x.Item.length < 9223372036854775808 := hx
  unfold laws_szEntry at h
  rw [IntKind.wrap_i64] at h
  cases hd : decide ((n - (x.Item.length : Int) + 9223372036854775808) % 18446744073709551616 - 9223372036854775808 < 0) with
  | true => rw [hd] at h; simp at h
  | false =>
    have := of_decide_eq_false hd
    show x.Item.length < 1099511627776
    omega
end Go.Ab
