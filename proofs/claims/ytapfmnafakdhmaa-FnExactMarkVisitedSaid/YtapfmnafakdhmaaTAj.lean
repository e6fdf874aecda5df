/- A part of a proof: walks of functions and lemmas of our own. No conditions. -/
import Derived.Test.YtapfmnafakdhmaaTAi
import Derived.Test.YtapfmnafakdhmaaTAh
set_option linter.unusedVariables false
set_option linter.unusedSimpArgs false
namespace Go.Ab
open Go Go.Proofs
theorem impl_visitOf_1_DD : DOk Try.prog (DD []) := DD_nil _
def impl_visitOf_1 (a0 : Visit) (a1 : Int) : Bool :=
  (a0.Aid == a1)

theorem impl_visitOf_1_den (a0 : Visit) (a1 : Int)  : Den Try.prog 135 [.agg (eVisit a0), .ep (eIi64 a1)] (.bool (impl_visitOf_1 a0 a1)) := by
  generalize hR : impl_visitOf_1 a0 a1 = r
  unfold impl_visitOf_1 at hR
  refine den_intro G_ok Try.func135 (by kernel_rfl) rfl Try.ntmps135 (by rw [Try.results135]) (by simp) rfl ?_
  intro c hc hk
  simp only [pars, Nat.zero_add]
  refine AWP.seq ?_
  refine AWP.regS G_ok impl_visitOf_1_DD hc (by kernel_rfl) (fun K hK => ?_); simp only [ea, gv, sv, reduceCtorEq, reduceIte, Nat.reduceBEq, Nat.reduceAdd, Nat.reduceEqDiff, Nat.reduceLT, Nat.reduceLeDiff, Nat.reduceMul, Nat.reduceSub, BEq.rfl, beq_self_eq_true, Int.reduceToNat]
  first | refine hK _ ?_ | refine ⟨by (first | trivial | omega | (simp only [ob, ln, bdv, sv] at *; omega) | ((try clear hK K); (repeat' first | apply And.intro | intro _) <;> first | trivial | omega | assumption | solve_by_elim | (apply bd_getD <;> first | assumption | decide) | (apply bd_subL <;> first | assumption | decide) | (simp only [ob, ln, bdv, sv] at *; first | omega | assumption | (simp_all; done) | grind))), hK _ ?_⟩
  clear hK K
  refine AWP.seq ?_
  refine AWP.regS G_ok impl_visitOf_1_DD hc (by kernel_rfl) (fun K hK => ?_); simp only [ea, gv, sv, reduceCtorEq, reduceIte, Nat.reduceBEq, Nat.reduceAdd, Nat.reduceEqDiff, Nat.reduceLT, Nat.reduceLeDiff, Nat.reduceMul, Nat.reduceSub, BEq.rfl, beq_self_eq_true, Int.reduceToNat]
  first | refine hK _ ?_ | refine ⟨by (first | trivial | omega | (simp only [ob, ln, bdv, sv] at *; omega) | ((try clear hK K); (repeat' first | apply And.intro | intro _) <;> first | trivial | omega | assumption | solve_by_elim | (apply bd_getD <;> first | assumption | decide) | (apply bd_subL <;> first | assumption | decide) | (simp only [ob, ln, bdv, sv] at *; first | omega | assumption | (simp_all; done) | grind))), hK _ ?_⟩
  clear hK K
  refine AWP.ret ?_
  subst hR
  (simp only [en, si, ea, gv, sv, hk, reduceCtorEq, reduceIte, Nat.reduceBEq, Nat.reduceAdd, Nat.reduceEqDiff, Nat.reduceLT, Nat.reduceLeDiff, Nat.reduceMul, Nat.reduceSub, BEq.rfl, beq_self_eq_true, Int.reduceToNat]; first | done | trivial | (and_intros <;> first | rfl | trivial | omega | (rw [IntKind.wrap_i64]; omega) | (simp only [ln]; done) | (simp only [ob, ln, bdv, sv] at *; first | omega | grind) | (left; intro j hj; simp only [pw, Bool.cond_eq_ite, Bool.and_eq_true, decide_eq_true_eq]; (repeat' split) <;> simp [putL, NoBorL, NoBor]) | (intro j hj; simp only [pw, Bool.cond_eq_ite, Bool.and_eq_true, decide_eq_true_eq]; (try rw [subL_getD _ _ _ _ (by first | assumption | omega)]); (try rw [clearL_getD _ _ _ _ (by first | omega | (simp only [ob, ln, bdv] at *; omega))]); (repeat' split) <;> first | rfl | omega | exact simOL_refl _ | (simp_all; done) | (simp_all; rfl) | (simp_all; omega) | (simp_all; exact simOL_refl _) | (simp [putL, NoBorL, NoBor]; done))))

def D_impl_visitOf_1 : DF
  | [x0, x1] => some (.bool (impl_visitOf_1 (rdG dVisit x0) (rdP dIi64 x1)), false, [wG eVisit dVisit x0, wP eIi64 dIi64 x1])
  | _ => none
theorem D_impl_visitOf_1_ok : OkD Try.prog 135 D_impl_visitOf_1 := by
  intro xs r z ob h ho
  unfold D_impl_visitOf_1 at h
  split at h
  · simp only [Option.some.injEq, Prod.mk.injEq] at h
    obtain ⟨rfl, rfl, rfl⟩ := h
    obtain ⟨h0, h1, _⟩ := ho
    exact Den.sim (impl_visitOf_1_den _ _ ) (simOL_cons (wG_sim h0).1 <| simOL_cons (wP_sim h1).1 <| trivial) (noIdL_cons (wG_sim h0).2 <| noIdL_cons (wP_sim h1).2 <| rfl) rfl
  · cases h
end Go.Ab

namespace Go.Ab
open Go Go.Proofs
theorem slices_IndexFunc_Visit__impl_visitOf_1_DD : DOk Try.prog (DD [(135, dP D_impl_visitOf_1)]) := DD_cons D_impl_visitOf_1_ok.e <| DD_nil _
def slices_IndexFunc_Visit__impl_visitOf_1_b1 (a0 : (List Visit)) (a1 : Int) (i1 : Nat) (s1 : Unit) : Except (Int) (Unit) :=
  (bif (impl_visitOf_1 (a0.getD i1 default) a1) then .error (i1 : Int) else .ok ())

def slices_IndexFunc_Visit__impl_visitOf_1 (a0 : (List Visit)) (a1 : Int) : Int :=
  (match loopR (slices_IndexFunc_Visit__impl_visitOf_1_b1 a0 a1) (a0.length - 0) 0 () with | .error e => e | .ok s1 => (-1))

theorem slices_IndexFunc_Visit__impl_visitOf_1_den (a0 : (List Visit)) (a1 : Int) (hb0 : a0.length < 1099511627776) : Den Try.prog 134 [encL 3 eVisit a0, .fn 135 0 [.ep (eIi64 a1)]] (.int .i64 (slices_IndexFunc_Visit__impl_visitOf_1 a0 a1)) := by
  generalize hR : slices_IndexFunc_Visit__impl_visitOf_1 a0 a1 = r
  unfold slices_IndexFunc_Visit__impl_visitOf_1 at hR
  refine den_intro G_ok Try.func134 (by kernel_rfl) rfl Try.ntmps134 (by rw [Try.results134]) (by simp) rfl ?_
  intro c hc hk
  simp only [pars, Nat.zero_add]
  refine AWP.seq ?_
  refine AWP.regS G_ok slices_IndexFunc_Visit__impl_visitOf_1_DD hc (by kernel_rfl) (fun K hK => ?_); simp only [ea, gv, sv, D_impl_visitOf_1, reduceCtorEq, reduceIte, Nat.reduceBEq, Nat.reduceAdd, Nat.reduceEqDiff, Nat.reduceLT, Nat.reduceLeDiff, Nat.reduceMul, Nat.reduceSub, BEq.rfl, beq_self_eq_true, Int.reduceToNat]
  first | refine hK _ ?_ | refine ⟨by (first | trivial | omega | (simp only [ob, ln, bdv, sv] at *; omega) | ((try clear hK K); (repeat' first | apply And.intro | intro _) <;> first | trivial | omega | assumption | solve_by_elim | (apply bd_getD <;> first | assumption | decide) | (apply bd_subL <;> first | assumption | decide) | (simp only [ob, ln, bdv, sv] at *; first | omega | assumption | (simp_all; done) | grind))), hK _ ?_⟩
  clear hK K
  refine AWP.seq ?_
  refine AWP.seq ?_
  refine AWP.regS G_ok slices_IndexFunc_Visit__impl_visitOf_1_DD hc (by kernel_rfl) (fun K hK => ?_); simp only [ea, gv, sv, D_impl_visitOf_1, reduceCtorEq, reduceIte, Nat.reduceBEq, Nat.reduceAdd, Nat.reduceEqDiff, Nat.reduceLT, Nat.reduceLeDiff, Nat.reduceMul, Nat.reduceSub, BEq.rfl, beq_self_eq_true, Int.reduceToNat]
  first | refine hK _ ?_ | refine ⟨by (first | trivial | omega | (simp only [ob, ln, bdv, sv] at *; omega) | ((try clear hK K); (repeat' first | apply And.intro | intro _) <;> first | trivial | omega | assumption | solve_by_elim | (apply bd_getD <;> first | assumption | decide) | (apply bd_subL <;> first | assumption | decide) | (simp only [ob, ln, bdv, sv] at *; first | omega | assumption | (simp_all; done) | grind))), hK _ ?_⟩
  clear hK K
  refine AWP.block ?_
  generalize hz1 : loopR (slices_IndexFunc_Visit__impl_visitOf_1_b1 a0 a1) (a0.length - 0) 0 () = z1 at hR
  refine AWP.range (slices_IndexFunc_Visit__impl_visitOf_1_b1 a0 a1) (fun i1 s1 => ⟨[(0, encL 3 eVisit a0), (1, .fn 135 0 [.ep (eIi64 a1)]), (7, .int .i64 (a0.length : Int)), (8, .int .i64 (i1 : Int))], []⟩) (fun i1 s1 => True) (a0.length) 0 () [] hz1 (by (first | trivial | omega | (simp only [ob, ln, bdv, sv] at *; omega) | ((try clear hK K); (repeat' first | apply And.intro | intro _) <;> first | trivial | omega | assumption | solve_by_elim | (apply bd_getD <;> first | assumption | decide) | (apply bd_subL <;> first | assumption | decide) | (simp only [ob, ln, bdv, sv] at *; first | omega | assumption | (simp_all; done) | grind)))) (by (first | trivial | (and_intros <;> simp only [ln] <;> omega) | (and_intros <;> simp only [ob, ln] at * <;> omega) | (and_intros <;> first | trivial | omega | assumption | (apply bd_set <;> first | assumption | (apply bd_getD <;> first | assumption | decide)) | (apply bd_app <;> first | assumption | (apply bd_getD <;> first | assumption | decide)) | (simp only [ob, ln, bdv, sv] at *; omega) | (simp; done)))) (by (simp only [si, ea, gv, sv, hk, reduceCtorEq, reduceIte, Nat.reduceBEq, Nat.reduceAdd, Nat.reduceEqDiff, Nat.reduceLT, Nat.reduceLeDiff, Nat.reduceMul, Nat.reduceSub, BEq.rfl, beq_self_eq_true, Int.reduceToNat]; first | done | trivial | (and_intros <;> first | rfl | trivial | omega | (rw [IntKind.wrap_i64]; omega) | (simp only [ln]; done) | (simp only [ob, ln, bdv, sv] at *; first | omega | grind) | (left; intro j hj; simp only [pw, Bool.cond_eq_ite, Bool.and_eq_true, decide_eq_true_eq]; (repeat' split) <;> simp [putL, NoBorL, NoBor]) | (intro j hj; simp only [pw, Bool.cond_eq_ite, Bool.and_eq_true, decide_eq_true_eq]; (try rw [subL_getD _ _ _ _ (by first | assumption | omega)]); (try rw [clearL_getD _ _ _ _ (by first | omega | (simp only [ob, ln, bdv] at *; omega))]); (repeat' split) <;> first | rfl | omega | exact simOL_refl _ | (simp_all; done) | (simp_all; rfl) | (simp_all; omega) | (simp_all; exact simOL_refl _) | (simp [putL, NoBorL, NoBor]; done))))) ?_
  clear hz1
  intro i1 s1 hi1 hW1 hz1
  refine AWP.seq ?_
  refine AWP.regS G_ok slices_IndexFunc_Visit__impl_visitOf_1_DD hc (by kernel_rfl) (fun K hK => ?_); simp only [ea, gv, sv, D_impl_visitOf_1, reduceCtorEq, reduceIte, Nat.reduceBEq, Nat.reduceAdd, Nat.reduceEqDiff, Nat.reduceLT, Nat.reduceLeDiff, Nat.reduceMul, Nat.reduceSub, BEq.rfl, beq_self_eq_true, Int.reduceToNat]
  first | refine hK _ ?_ | refine ⟨by (first | trivial | omega | (simp only [ob, ln, bdv, sv] at *; omega) | ((try clear hK K); (repeat' first | apply And.intro | intro _) <;> first | trivial | omega | assumption | solve_by_elim | (apply bd_getD <;> first | assumption | decide) | (apply bd_subL <;> first | assumption | decide) | (simp only [ob, ln, bdv, sv] at *; first | omega | assumption | (simp_all; done) | grind))), hK _ ?_⟩
  clear hK K
  refine AWP.seq ?_
  refine AWP.cond rfl (fun hb => ?_) (fun hb => ?_)
  · have hlt1 : i1 < a0.length := by (first | trivial | omega | (simp only [ob, ln, bdv, sv] at *; omega) | ((try clear hK K); (repeat' first | apply And.intro | intro _) <;> first | trivial | omega | assumption | solve_by_elim | (apply bd_getD <;> first | assumption | decide) | (apply bd_subL <;> first | assumption | decide) | (simp only [ob, ln, bdv, sv] at *; first | omega | assumption | (simp_all; done) | grind)))
    rw [loopR_lt hlt1] at hz1; simp only [slices_IndexFunc_Visit__impl_visitOf_1_b1] at hz1
    refine AWP.skip ?_
    refine AWP.seq ?_
    refine AWP.block ?_
    refine AWP.seq ?_
    refine AWP.regS G_ok slices_IndexFunc_Visit__impl_visitOf_1_DD hc (by kernel_rfl) (fun K hK => ?_); simp only [ea, gv, sv, D_impl_visitOf_1, reduceCtorEq, reduceIte, Nat.reduceBEq, Nat.reduceAdd, Nat.reduceEqDiff, Nat.reduceLT, Nat.reduceLeDiff, Nat.reduceMul, Nat.reduceSub, BEq.rfl, beq_self_eq_true, Int.reduceToNat]
    first | refine hK _ ?_ | refine ⟨by (first | trivial | omega | (simp only [ob, ln, bdv, sv] at *; omega) | ((try clear hK K); (repeat' first | apply And.intro | intro _) <;> first | trivial | omega | assumption | solve_by_elim | (apply bd_getD <;> first | assumption | decide) | (apply bd_subL <;> first | assumption | decide) | (simp only [ob, ln, bdv, sv] at *; first | omega | assumption | (simp_all; done) | grind))), hK _ ?_⟩
    clear hK K
    refine AWP.seq ?_
    refine AWP.regS G_ok slices_IndexFunc_Visit__impl_visitOf_1_DD hc (by kernel_rfl) (fun K hK => ?_); simp only [ea, gv, sv, D_impl_visitOf_1, reduceCtorEq, reduceIte, Nat.reduceBEq, Nat.reduceAdd, Nat.reduceEqDiff, Nat.reduceLT, Nat.reduceLeDiff, Nat.reduceMul, Nat.reduceSub, BEq.rfl, beq_self_eq_true, Int.reduceToNat]
    first | refine hK _ ?_ | refine ⟨by (first | trivial | omega | (simp only [ob, ln, bdv, sv] at *; omega) | ((try clear hK K); (repeat' first | apply And.intro | intro _) <;> first | trivial | omega | assumption | solve_by_elim | (apply bd_getD <;> first | assumption | decide) | (apply bd_subL <;> first | assumption | decide) | (simp only [ob, ln, bdv, sv] at *; first | omega | assumption | (simp_all; done) | grind))), hK _ ?_⟩
    clear hK K
    refine AWP.cond rfl (fun hb => ?_) (fun hb => ?_)
    · first | simp only [hb, cond_true] at hz1 | (simp only [*] at hb; simp only [hb, cond_true] at hz1)
      refine AWP.seq ?_
      refine AWP.regS G_ok slices_IndexFunc_Visit__impl_visitOf_1_DD hc (by kernel_rfl) (fun K hK => ?_); simp only [ea, gv, sv, D_impl_visitOf_1, reduceCtorEq, reduceIte, Nat.reduceBEq, Nat.reduceAdd, Nat.reduceEqDiff, Nat.reduceLT, Nat.reduceLeDiff, Nat.reduceMul, Nat.reduceSub, BEq.rfl, beq_self_eq_true, Int.reduceToNat]
      first | refine hK _ ?_ | refine ⟨by (first | trivial | omega | (simp only [ob, ln, bdv, sv] at *; omega) | ((try clear hK K); (repeat' first | apply And.intro | intro _) <;> first | trivial | omega | assumption | solve_by_elim | (apply bd_getD <;> first | assumption | decide) | (apply bd_subL <;> first | assumption | decide) | (simp only [ob, ln, bdv, sv] at *; first | omega | assumption | (simp_all; done) | grind))), hK _ ?_⟩
      clear hK K
      refine AWP.ret ?_
      subst hz1
      dsimp only at hR
      subst hR
      (simp only [en, si, ea, gv, sv, hk, reduceCtorEq, reduceIte, Nat.reduceBEq, Nat.reduceAdd, Nat.reduceEqDiff, Nat.reduceLT, Nat.reduceLeDiff, Nat.reduceMul, Nat.reduceSub, BEq.rfl, beq_self_eq_true, Int.reduceToNat]; first | done | trivial | (and_intros <;> first | rfl | trivial | omega | (rw [IntKind.wrap_i64]; omega) | (simp only [ln]; done) | (simp only [ob, ln, bdv, sv] at *; first | omega | grind) | (left; intro j hj; simp only [pw, Bool.cond_eq_ite, Bool.and_eq_true, decide_eq_true_eq]; (repeat' split) <;> simp [putL, NoBorL, NoBor]) | (intro j hj; simp only [pw, Bool.cond_eq_ite, Bool.and_eq_true, decide_eq_true_eq]; (try rw [subL_getD _ _ _ _ (by first | assumption | omega)]); (try rw [clearL_getD _ _ _ _ (by first | omega | (simp only [ob, ln, bdv] at *; omega))]); (repeat' split) <;> first | rfl | omega | exact simOL_refl _ | (simp_all; done) | (simp_all; rfl) | (simp_all; omega) | (simp_all; exact simOL_refl _) | (simp [putL, NoBorL, NoBor]; done))))
    · first | simp only [hb, cond_false] at hz1 | (simp only [*] at hb; simp only [hb, cond_false] at hz1)
      refine AWP.skip ?_
      refine AWP.regS G_ok slices_IndexFunc_Visit__impl_visitOf_1_DD hc (by kernel_rfl) (fun K hK => ?_); simp only [ea, gv, sv, D_impl_visitOf_1, reduceCtorEq, reduceIte, Nat.reduceBEq, Nat.reduceAdd, Nat.reduceEqDiff, Nat.reduceLT, Nat.reduceLeDiff, Nat.reduceMul, Nat.reduceSub, BEq.rfl, beq_self_eq_true, Int.reduceToNat]
      first | refine hK _ ?_ | refine ⟨by (first | trivial | omega | (simp only [ob, ln, bdv, sv] at *; omega) | ((try clear hK K); (repeat' first | apply And.intro | intro _) <;> first | trivial | omega | assumption | solve_by_elim | (apply bd_getD <;> first | assumption | decide) | (apply bd_subL <;> first | assumption | decide) | (simp only [ob, ln, bdv, sv] at *; first | omega | assumption | (simp_all; done) | grind))), hK _ ?_⟩
      clear hK K
      exact ⟨_, [], hlt1, by (first | trivial | (and_intros <;> simp only [ln] <;> omega) | (and_intros <;> simp only [ob, ln] at * <;> omega) | (and_intros <;> first | trivial | omega | assumption | (apply bd_set <;> first | assumption | (apply bd_getD <;> first | assumption | decide)) | (apply bd_app <;> first | assumption | (apply bd_getD <;> first | assumption | decide)) | (simp only [ob, ln, bdv, sv] at *; omega) | (simp; done))), hz1, by (simp only [si, ea, gv, sv, hk, reduceCtorEq, reduceIte, Nat.reduceBEq, Nat.reduceAdd, Nat.reduceEqDiff, Nat.reduceLT, Nat.reduceLeDiff, Nat.reduceMul, Nat.reduceSub, BEq.rfl, beq_self_eq_true, Int.reduceToNat]; first | done | trivial | (and_intros <;> first | rfl | trivial | omega | (rw [IntKind.wrap_i64]; omega) | (simp only [ln]; done) | (simp only [ob, ln, bdv, sv] at *; first | omega | grind) | (left; intro j hj; simp only [pw, Bool.cond_eq_ite, Bool.and_eq_true, decide_eq_true_eq]; (repeat' split) <;> simp [putL, NoBorL, NoBor]) | (intro j hj; simp only [pw, Bool.cond_eq_ite, Bool.and_eq_true, decide_eq_true_eq]; (try rw [subL_getD _ _ _ _ (by first | assumption | omega)]); (try rw [clearL_getD _ _ _ _ (by first | omega | (simp only [ob, ln, bdv] at *; omega))]); (repeat' split) <;> first | rfl | omega | exact simOL_refl _ | (simp_all; done) | (simp_all; rfl) | (simp_all; omega) | (simp_all; exact simOL_refl _) | (simp [putL, NoBorL, NoBor]; done))))⟩
  · obtain rfl : i1 = a0.length := by (first | trivial | omega | (simp only [ob, ln, bdv, sv] at *; omega) | ((try clear hK K); (repeat' first | apply And.intro | intro _) <;> first | trivial | omega | assumption | solve_by_elim | (apply bd_getD <;> first | assumption | decide) | (apply bd_subL <;> first | assumption | decide) | (simp only [ob, ln, bdv, sv] at *; first | omega | assumption | (simp_all; done) | grind)))
    rw [loopR_ge (Nat.le_refl _)] at hz1; subst hz1; dsimp only at hR
    refine AWP.exit ?_; refine exitTo_here ?_
    refine AWP.seq ?_
    refine AWP.regS G_ok slices_IndexFunc_Visit__impl_visitOf_1_DD hc (by kernel_rfl) (fun K hK => ?_); simp only [ea, gv, sv, D_impl_visitOf_1, reduceCtorEq, reduceIte, Nat.reduceBEq, Nat.reduceAdd, Nat.reduceEqDiff, Nat.reduceLT, Nat.reduceLeDiff, Nat.reduceMul, Nat.reduceSub, BEq.rfl, beq_self_eq_true, Int.reduceToNat]
    first | refine hK _ ?_ | refine ⟨by (first | trivial | omega | (simp only [ob, ln, bdv, sv] at *; omega) | ((try clear hK K); (repeat' first | apply And.intro | intro _) <;> first | trivial | omega | assumption | solve_by_elim | (apply bd_getD <;> first | assumption | decide) | (apply bd_subL <;> first | assumption | decide) | (simp only [ob, ln, bdv, sv] at *; first | omega | assumption | (simp_all; done) | grind))), hK _ ?_⟩
    clear hK K
    refine AWP.ret ?_
    subst hR
    (simp only [en, si, ea, gv, sv, hk, reduceCtorEq, reduceIte, Nat.reduceBEq, Nat.reduceAdd, Nat.reduceEqDiff, Nat.reduceLT, Nat.reduceLeDiff, Nat.reduceMul, Nat.reduceSub, BEq.rfl, beq_self_eq_true, Int.reduceToNat]; first | done | trivial | (and_intros <;> first | rfl | trivial | omega | (rw [IntKind.wrap_i64]; omega) | (simp only [ln]; done) | (simp only [ob, ln, bdv, sv] at *; first | omega | grind) | (left; intro j hj; simp only [pw, Bool.cond_eq_ite, Bool.and_eq_true, decide_eq_true_eq]; (repeat' split) <;> simp [putL, NoBorL, NoBor]) | (intro j hj; simp only [pw, Bool.cond_eq_ite, Bool.and_eq_true, decide_eq_true_eq]; (try rw [subL_getD _ _ _ _ (by first | assumption | omega)]); (try rw [clearL_getD _ _ _ _ (by first | omega | (simp only [ob, ln, bdv] at *; omega))]); (repeat' split) <;> first | rfl | omega | exact simOL_refl _ | (simp_all; done) | (simp_all; rfl) | (simp_all; omega) | (simp_all; exact simOL_refl _) | (simp [putL, NoBorL, NoBor]; done))))

def D_slices_IndexFunc_Visit__impl_visitOf_1 : DF
  | [x0, (.fn f135_2 kf135_2 [y1])] => some (.int .i64 (slices_IndexFunc_Visit__impl_visitOf_1 (rdL dVisit x0) (rdP dIi64 y1)), false, [wL 3 eVisit dVisit x0, y1 = .ep (eIi64 (rdP dIi64 y1)), f135_2 = 135, kf135_2 = 0, (rdL dVisit x0).length < 1099511627776])
  | _ => none
theorem D_slices_IndexFunc_Visit__impl_visitOf_1_ok : OkD Try.prog 134 D_slices_IndexFunc_Visit__impl_visitOf_1 := by
  intro xs r z ob h ho
  unfold D_slices_IndexFunc_Visit__impl_visitOf_1 at h
  split at h
  · simp only [Option.some.injEq, Prod.mk.injEq] at h
    obtain ⟨rfl, rfl, rfl⟩ := h
    obtain ⟨h0, qy1, qf135_2, qkf135_2, hb0, _⟩ := ho
    exact Den.sim (slices_IndexFunc_Visit__impl_visitOf_1_den _ _ hb0) (simOL_cons (wL_sim h0).1 <| simOL_cons (by subst qf135_2 qkf135_2; rw [← qy1]; exact simO_refl _) <| trivial) (noIdL_cons (wL_sim h0).2 <| noIdL_cons (by rw [qy1]; rfl) <| rfl) rfl
  · cases h
end Go.Ab

namespace Go.Ab
open Go Go.Proofs
theorem slices_IndexFunc_Visit__impl_visitOf_1_first (a0 : List Visit) (a2 : Int) : (∃ j, j < a0.length ∧ (impl_visitOf_1 (a0.getD j default) a2) = true ∧ (∀ q, q < j → (impl_visitOf_1 (a0.getD q default) a2) = false) ∧ slices_IndexFunc_Visit__impl_visitOf_1 a0 a2 = (j : Int)) ∨ ((∀ q, q < a0.length → (impl_visitOf_1 (a0.getD q default) a2) = false) ∧ slices_IndexFunc_Visit__impl_visitOf_1 a0 a2 = -1) := by
  unfold slices_IndexFunc_Visit__impl_visitOf_1
  rcases loopR_first (b := slices_IndexFunc_Visit__impl_visitOf_1_b1 a0 a2) (fun j => impl_visitOf_1 (a0.getD j default) a2) (fun j => (j : Int)) (k := a0.length - 0) (i := 0) (s := ()) (fun j u _ _ => rfl) with ⟨j, _, h2, h3, h4, h5⟩ | ⟨h1, h2⟩
  · left
    rw [h5]
    exact ⟨j, by omega, h3, fun q hq => h4 q (Nat.zero_le _) hq, rfl⟩
  · right
    rw [h2]
    exact ⟨fun q hq => h1 q (Nat.zero_le _) (by omega), rfl⟩
theorem slices_IndexFunc_Visit__impl_visitOf_1_lt (a0 : List Visit) (a2 : Int) : -1 ≤ slices_IndexFunc_Visit__impl_visitOf_1 a0 a2 ∧ slices_IndexFunc_Visit__impl_visitOf_1 a0 a2 < a0.length := by
  rcases slices_IndexFunc_Visit__impl_visitOf_1_first a0 a2 with ⟨j, h1, _, _, h2⟩ | ⟨_, h2⟩ <;> omega
end Go.Ab

namespace Go.Ab
open Go Go.Proofs
theorem impl_visitOf_DD : DOk Try.prog (DD [(134, dP D_slices_IndexFunc_Visit__impl_visitOf_1)]) := DD_cons D_slices_IndexFunc_Visit__impl_visitOf_1_ok.e <| DD_nil _
def impl_visitOf (a0 : (List Visit)) (a1 : Int) : Int :=
  (slices_IndexFunc_Visit__impl_visitOf_1 a0 a1)

theorem impl_visitOf_den (a0 : (List Visit)) (a1 : Int) (hb0 : a0.length < 1099511627776) : Den Try.prog 111 [encL 3 eVisit a0, .int .i64 a1] (.int .i64 (impl_visitOf a0 a1)) := by
  generalize hR : impl_visitOf a0 a1 = r
  unfold impl_visitOf at hR
  refine den_intro G_ok Try.func111 (by kernel_rfl) rfl Try.ntmps111 (by rw [Try.results111]) (by simp) rfl ?_
  intro c hc hk
  simp only [pars, Nat.zero_add]
  refine AWP.seq ?_
  refine AWP.regS G_ok impl_visitOf_DD hc (by kernel_rfl) (fun K hK => ?_); simp only [ea, gv, sv, D_slices_IndexFunc_Visit__impl_visitOf_1, reduceCtorEq, reduceIte, Nat.reduceBEq, Nat.reduceAdd, Nat.reduceEqDiff, Nat.reduceLT, Nat.reduceLeDiff, Nat.reduceMul, Nat.reduceSub, BEq.rfl, beq_self_eq_true, Int.reduceToNat]
  first | refine hK _ ?_ | refine ⟨by (first | trivial | omega | (simp only [ob, ln, bdv, sv] at *; omega) | ((try clear hK K); (repeat' first | apply And.intro | intro _) <;> first | trivial | omega | assumption | solve_by_elim | (apply bd_getD <;> first | assumption | decide) | (apply bd_subL <;> first | assumption | decide) | (simp only [ob, ln, bdv, sv] at *; first | omega | assumption | (simp_all; done) | grind [slices_IndexFunc_Visit__impl_visitOf_1_lt]))), hK _ ?_⟩
  clear hK K
  refine AWP.seq ?_
  refine AWP.regS G_ok impl_visitOf_DD hc (by kernel_rfl) (fun K hK => ?_); simp only [ea, gv, sv, D_slices_IndexFunc_Visit__impl_visitOf_1, reduceCtorEq, reduceIte, Nat.reduceBEq, Nat.reduceAdd, Nat.reduceEqDiff, Nat.reduceLT, Nat.reduceLeDiff, Nat.reduceMul, Nat.reduceSub, BEq.rfl, beq_self_eq_true, Int.reduceToNat]
  first | refine hK _ ?_ | refine ⟨by (first | trivial | omega | (simp only [ob, ln, bdv, sv] at *; omega) | ((try clear hK K); (repeat' first | apply And.intro | intro _) <;> first | trivial | omega | assumption | solve_by_elim | (apply bd_getD <;> first | assumption | decide) | (apply bd_subL <;> first | assumption | decide) | (simp only [ob, ln, bdv, sv] at *; first | omega | assumption | (simp_all; done) | grind [slices_IndexFunc_Visit__impl_visitOf_1_lt]))), hK _ ?_⟩
  clear hK K
  refine AWP.ret ?_
  subst hR
  (simp only [en, si, ea, gv, sv, hk, reduceCtorEq, reduceIte, Nat.reduceBEq, Nat.reduceAdd, Nat.reduceEqDiff, Nat.reduceLT, Nat.reduceLeDiff, Nat.reduceMul, Nat.reduceSub, BEq.rfl, beq_self_eq_true, Int.reduceToNat]; first | done | trivial | (and_intros <;> first | rfl | trivial | omega | (rw [IntKind.wrap_i64]; omega) | (simp only [ln]; done) | (simp only [ob, ln, bdv, sv] at *; first | omega | grind [slices_IndexFunc_Visit__impl_visitOf_1_lt]) | (left; intro j hj; simp only [pw, Bool.cond_eq_ite, Bool.and_eq_true, decide_eq_true_eq]; (repeat' split) <;> simp [putL, NoBorL, NoBor]) | (intro j hj; simp only [pw, Bool.cond_eq_ite, Bool.and_eq_true, decide_eq_true_eq]; (try rw [subL_getD _ _ _ _ (by first | assumption | omega)]); (try rw [clearL_getD _ _ _ _ (by first | omega | (simp only [ob, ln, bdv] at *; omega))]); (repeat' split) <;> first | rfl | omega | exact simOL_refl _ | (simp_all; done) | (simp_all; rfl) | (simp_all; omega) | (simp_all; exact simOL_refl _) | (simp [putL, NoBorL, NoBor]; done))))

def D_impl_visitOf : DF
  | [x0, x1] => some (.int .i64 (impl_visitOf (rdL dVisit x0) (rdI x1)), false, [wL 3 eVisit dVisit x0, wI .i64 x1, (rdL dVisit x0).length < 1099511627776])
  | _ => none
theorem D_impl_visitOf_ok : OkD Try.prog 111 D_impl_visitOf := by
  intro xs r z ob h ho
  unfold D_impl_visitOf at h
  split at h
  · simp only [Option.some.injEq, Prod.mk.injEq] at h
    obtain ⟨rfl, rfl, rfl⟩ := h
    obtain ⟨h0, h1, hb0, _⟩ := ho
    exact Den.sim (impl_visitOf_den _ _ hb0) (simOL_cons (wL_sim h0).1 <| simOL_cons (wI_sim h1).1 <| trivial) (noIdL_cons (wL_sim h0).2 <| noIdL_cons (wI_sim h1).2 <| rfl) rfl
  · cases h
end Go.Ab

namespace Go.Ab
open Go Go.Proofs
theorem impl_visitOf_lt (a0 : List Visit) (a1 : Int) : -1 ≤ impl_visitOf a0 a1 ∧ impl_visitOf a0 a1 < a0.length := slices_IndexFunc_Visit__impl_visitOf_1_lt a0 a1
end Go.Ab

namespace Go.Ab
open Go Go.Proofs
theorem impl_within_DD : DOk Try.prog (DD []) := DD_nil _
def impl_within (a0 : Int) (a1 : Int) (a2 : Int) : Bool :=
  (decide (a1 ≤ a0) && decide (a0 ≤ a2))

theorem impl_within_den (a0 : Int) (a1 : Int) (a2 : Int)  : Den Try.prog 84 [.int .i64 a0, .int .i64 a1, .int .i64 a2] (.bool (impl_within a0 a1 a2)) := by
  generalize hR : impl_within a0 a1 a2 = r
  unfold impl_within at hR
  refine den_intro G_ok Try.func84 (by kernel_rfl) rfl Try.ntmps84 (by rw [Try.results84]) (by simp) rfl ?_
  intro c hc hk
  simp only [pars, Nat.zero_add]
  refine AWP.seq ?_
  refine AWP.regS G_ok impl_within_DD hc (by kernel_rfl) (fun K hK => ?_); simp only [ea, gv, sv, reduceCtorEq, reduceIte, Nat.reduceBEq, Nat.reduceAdd, Nat.reduceEqDiff, Nat.reduceLT, Nat.reduceLeDiff, Nat.reduceMul, Nat.reduceSub, BEq.rfl, beq_self_eq_true, Int.reduceToNat]
  first | refine hK _ ?_ | refine ⟨by (first | trivial | omega | (simp only [ob, ln, bdv, sv] at *; omega) | ((try clear hK K); (repeat' first | apply And.intro | intro _) <;> first | trivial | omega | assumption | solve_by_elim | (apply bd_getD <;> first | assumption | decide) | (apply bd_subL <;> first | assumption | decide) | (simp only [ob, ln, bdv, sv] at *; first | omega | assumption | (simp_all; done) | grind))), hK _ ?_⟩
  clear hK K
  refine AWP.seq ?_
  refine AWP.regS G_ok impl_within_DD hc (by kernel_rfl) (fun K hK => ?_); simp only [ea, gv, sv, reduceCtorEq, reduceIte, Nat.reduceBEq, Nat.reduceAdd, Nat.reduceEqDiff, Nat.reduceLT, Nat.reduceLeDiff, Nat.reduceMul, Nat.reduceSub, BEq.rfl, beq_self_eq_true, Int.reduceToNat]
  first | refine hK _ ?_ | refine ⟨by (first | trivial | omega | (simp only [ob, ln, bdv, sv] at *; omega) | ((try clear hK K); (repeat' first | apply And.intro | intro _) <;> first | trivial | omega | assumption | solve_by_elim | (apply bd_getD <;> first | assumption | decide) | (apply bd_subL <;> first | assumption | decide) | (simp only [ob, ln, bdv, sv] at *; first | omega | assumption | (simp_all; done) | grind))), hK _ ?_⟩
  clear hK K
  refine AWP.ret ?_
  subst hR
  (simp only [en, si, ea, gv, sv, hk, reduceCtorEq, reduceIte, Nat.reduceBEq, Nat.reduceAdd, Nat.reduceEqDiff, Nat.reduceLT, Nat.reduceLeDiff, Nat.reduceMul, Nat.reduceSub, BEq.rfl, beq_self_eq_true, Int.reduceToNat]; first | done | trivial | (and_intros <;> first | rfl | trivial | omega | (rw [IntKind.wrap_i64]; omega) | (simp only [ln]; done) | (simp only [ob, ln, bdv, sv] at *; first | omega | grind) | (left; intro j hj; simp only [pw, Bool.cond_eq_ite, Bool.and_eq_true, decide_eq_true_eq]; (repeat' split) <;> simp [putL, NoBorL, NoBor]) | (intro j hj; simp only [pw, Bool.cond_eq_ite, Bool.and_eq_true, decide_eq_true_eq]; (try rw [subL_getD _ _ _ _ (by first | assumption | omega)]); (try rw [clearL_getD _ _ _ _ (by first | omega | (simp only [ob, ln, bdv] at *; omega))]); (repeat' split) <;> first | rfl | omega | exact simOL_refl _ | (simp_all; done) | (simp_all; rfl) | (simp_all; omega) | (simp_all; exact simOL_refl _) | (simp [putL, NoBorL, NoBor]; done))))

def D_impl_within : DF
  | [x0, x1, x2] => some (.bool (impl_within (rdI x0) (rdI x1) (rdI x2)), false, [wI .i64 x0, wI .i64 x1, wI .i64 x2])
  | _ => none
theorem D_impl_within_ok : OkD Try.prog 84 D_impl_within := by
  intro xs r z ob h ho
  unfold D_impl_within at h
  split at h
  · simp only [Option.some.injEq, Prod.mk.injEq] at h
    obtain ⟨rfl, rfl, rfl⟩ := h
    obtain ⟨h0, h1, h2, _⟩ := ho
    exact Den.sim (impl_within_den _ _ _ ) (simOL_cons (wI_sim h0).1 <| simOL_cons (wI_sim h1).1 <| simOL_cons (wI_sim h2).1 <| trivial) (noIdL_cons (wI_sim h0).2 <| noIdL_cons (wI_sim h1).2 <| noIdL_cons (wI_sim h2).2 <| rfl) rfl
  · cases h
end Go.Ab

namespace Go.Ab
open Go Go.Proofs
theorem impl_isNumber_DD : DOk Try.prog (DD [(84, dP D_impl_within)]) := DD_cons D_impl_within_ok.e <| DD_nil _
def impl_isNumber (a0 : Int) : Bool :=
  (impl_within a0 1 9999)

theorem impl_isNumber_den (a0 : Int)  : Den Try.prog 101 [.int .i64 a0] (.bool (impl_isNumber a0)) := by
  generalize hR : impl_isNumber a0 = r
  unfold impl_isNumber at hR
  refine den_intro G_ok Try.func101 (by kernel_rfl) rfl Try.ntmps101 (by rw [Try.results101]) (by simp) rfl ?_
  intro c hc hk
  simp only [pars, Nat.zero_add]
  refine AWP.seq ?_
  refine AWP.regS G_ok impl_isNumber_DD hc (by kernel_rfl) (fun K hK => ?_); simp only [ea, gv, sv, D_impl_within, reduceCtorEq, reduceIte, Nat.reduceBEq, Nat.reduceAdd, Nat.reduceEqDiff, Nat.reduceLT, Nat.reduceLeDiff, Nat.reduceMul, Nat.reduceSub, BEq.rfl, beq_self_eq_true, Int.reduceToNat]
  first | refine hK _ ?_ | refine ⟨by (first | trivial | omega | (simp only [ob, ln, bdv, impl_within, sv] at *; omega) | ((try clear hK K); (repeat' first | apply And.intro | intro _) <;> first | trivial | omega | assumption | solve_by_elim | (apply bd_getD <;> first | assumption | decide) | (apply bd_subL <;> first | assumption | decide) | (simp only [ob, ln, bdv, impl_within, sv] at *; first | omega | assumption | (simp_all; done) | grind))), hK _ ?_⟩
  clear hK K
  refine AWP.seq ?_
  refine AWP.regS G_ok impl_isNumber_DD hc (by kernel_rfl) (fun K hK => ?_); simp only [ea, gv, sv, D_impl_within, reduceCtorEq, reduceIte, Nat.reduceBEq, Nat.reduceAdd, Nat.reduceEqDiff, Nat.reduceLT, Nat.reduceLeDiff, Nat.reduceMul, Nat.reduceSub, BEq.rfl, beq_self_eq_true, Int.reduceToNat]
  first | refine hK _ ?_ | refine ⟨by (first | trivial | omega | (simp only [ob, ln, bdv, impl_within, sv] at *; omega) | ((try clear hK K); (repeat' first | apply And.intro | intro _) <;> first | trivial | omega | assumption | solve_by_elim | (apply bd_getD <;> first | assumption | decide) | (apply bd_subL <;> first | assumption | decide) | (simp only [ob, ln, bdv, impl_within, sv] at *; first | omega | assumption | (simp_all; done) | grind))), hK _ ?_⟩
  clear hK K
  refine AWP.ret ?_
  subst hR
  (simp only [en, si, ea, gv, sv, hk, reduceCtorEq, reduceIte, Nat.reduceBEq, Nat.reduceAdd, Nat.reduceEqDiff, Nat.reduceLT, Nat.reduceLeDiff, Nat.reduceMul, Nat.reduceSub, BEq.rfl, beq_self_eq_true, Int.reduceToNat]; first | done | trivial | (and_intros <;> first | rfl | trivial | omega | (rw [IntKind.wrap_i64]; omega) | (simp only [ln]; done) | (simp only [ob, ln, bdv, impl_within, sv] at *; first | omega | grind) | (left; intro j hj; simp only [pw, Bool.cond_eq_ite, Bool.and_eq_true, decide_eq_true_eq]; (repeat' split) <;> simp [putL, NoBorL, NoBor]) | (intro j hj; simp only [pw, Bool.cond_eq_ite, Bool.and_eq_true, decide_eq_true_eq]; (try rw [subL_getD _ _ _ _ (by first | assumption | omega)]); (try rw [clearL_getD _ _ _ _ (by first | omega | (simp only [ob, ln, bdv] at *; omega))]); (repeat' split) <;> first | rfl | omega | exact simOL_refl _ | (simp_all; done) | (simp_all; rfl) | (simp_all; omega) | (simp_all; exact simOL_refl _) | (simp [putL, NoBorL, NoBor]; done))))

def D_impl_isNumber : DF
  | [x0] => some (.bool (impl_isNumber (rdI x0)), false, [wI .i64 x0])
  | _ => none
theorem D_impl_isNumber_ok : OkD Try.prog 101 D_impl_isNumber := by
  intro xs r z ob h ho
  unfold D_impl_isNumber at h
  split at h
  · simp only [Option.some.injEq, Prod.mk.injEq] at h
    obtain ⟨rfl, rfl, rfl⟩ := h
    obtain ⟨h0, _⟩ := ho
    exact Den.sim (impl_isNumber_den _ ) (simOL_cons (wI_sim h0).1 <| trivial) (noIdL_cons (wI_sim h0).2 <| rfl) rfl
  · cases h
end Go.Ab

namespace Go.Ab
open Go Go.Proofs
theorem impl_isDay_DD : DOk Try.prog (DD [(84, dP D_impl_within)]) := DD_cons D_impl_within_ok.e <| DD_nil _
def impl_isDay (a0 : Int) : Bool :=
  (impl_within a0 0 99999)

theorem impl_isDay_den (a0 : Int)  : Den Try.prog 110 [.int .i64 a0] (.bool (impl_isDay a0)) := by
  generalize hR : impl_isDay a0 = r
  unfold impl_isDay at hR
  refine den_intro G_ok Try.func110 (by kernel_rfl) rfl Try.ntmps110 (by rw [Try.results110]) (by simp) rfl ?_
  intro c hc hk
  simp only [pars, Nat.zero_add]
  refine AWP.seq ?_
  refine AWP.regS G_ok impl_isDay_DD hc (by kernel_rfl) (fun K hK => ?_); simp only [ea, gv, sv, D_impl_within, reduceCtorEq, reduceIte, Nat.reduceBEq, Nat.reduceAdd, Nat.reduceEqDiff, Nat.reduceLT, Nat.reduceLeDiff, Nat.reduceMul, Nat.reduceSub, BEq.rfl, beq_self_eq_true, Int.reduceToNat]
  first | refine hK _ ?_ | refine ⟨by (first | trivial | omega | (simp only [ob, ln, bdv, impl_within, sv] at *; omega) | ((try clear hK K); (repeat' first | apply And.intro | intro _) <;> first | trivial | omega | assumption | solve_by_elim | (apply bd_getD <;> first | assumption | decide) | (apply bd_subL <;> first | assumption | decide) | (simp only [ob, ln, bdv, impl_within, sv] at *; first | omega | assumption | (simp_all; done) | grind))), hK _ ?_⟩
  clear hK K
  refine AWP.seq ?_
  refine AWP.regS G_ok impl_isDay_DD hc (by kernel_rfl) (fun K hK => ?_); simp only [ea, gv, sv, D_impl_within, reduceCtorEq, reduceIte, Nat.reduceBEq, Nat.reduceAdd, Nat.reduceEqDiff, Nat.reduceLT, Nat.reduceLeDiff, Nat.reduceMul, Nat.reduceSub, BEq.rfl, beq_self_eq_true, Int.reduceToNat]
  first | refine hK _ ?_ | refine ⟨by (first | trivial | omega | (simp only [ob, ln, bdv, impl_within, sv] at *; omega) | ((try clear hK K); (repeat' first | apply And.intro | intro _) <;> first | trivial | omega | assumption | solve_by_elim | (apply bd_getD <;> first | assumption | decide) | (apply bd_subL <;> first | assumption | decide) | (simp only [ob, ln, bdv, impl_within, sv] at *; first | omega | assumption | (simp_all; done) | grind))), hK _ ?_⟩
  clear hK K
  refine AWP.ret ?_
  subst hR
  (simp only [en, si, ea, gv, sv, hk, reduceCtorEq, reduceIte, Nat.reduceBEq, Nat.reduceAdd, Nat.reduceEqDiff, Nat.reduceLT, Nat.reduceLeDiff, Nat.reduceMul, Nat.reduceSub, BEq.rfl, beq_self_eq_true, Int.reduceToNat]; first | done | trivial | (and_intros <;> first | rfl | trivial | omega | (rw [IntKind.wrap_i64]; omega) | (simp only [ln]; done) | (simp only [ob, ln, bdv, impl_within, sv] at *; first | omega | grind) | (left; intro j hj; simp only [pw, Bool.cond_eq_ite, Bool.and_eq_true, decide_eq_true_eq]; (repeat' split) <;> simp [putL, NoBorL, NoBor]) | (intro j hj; simp only [pw, Bool.cond_eq_ite, Bool.and_eq_true, decide_eq_true_eq]; (try rw [subL_getD _ _ _ _ (by first | assumption | omega)]); (try rw [clearL_getD _ _ _ _ (by first | omega | (simp only [ob, ln, bdv] at *; omega))]); (repeat' split) <;> first | rfl | omega | exact simOL_refl _ | (simp_all; done) | (simp_all; rfl) | (simp_all; omega) | (simp_all; exact simOL_refl _) | (simp [putL, NoBorL, NoBor]; done))))

def D_impl_isDay : DF
  | [x0] => some (.bool (impl_isDay (rdI x0)), false, [wI .i64 x0])
  | _ => none
theorem D_impl_isDay_ok : OkD Try.prog 110 D_impl_isDay := by
  intro xs r z ob h ho
  unfold D_impl_isDay at h
  split at h
  · simp only [Option.some.injEq, Prod.mk.injEq] at h
    obtain ⟨rfl, rfl, rfl⟩ := h
    obtain ⟨h0, _⟩ := ho
    exact Den.sim (impl_isDay_den _ ) (simOL_cons (wI_sim h0).1 <| trivial) (noIdL_cons (wI_sim h0).2 <| rfl) rfl
  · cases h
end Go.Ab

namespace Go.Ab
open Go Go.Proofs
theorem impl_isVisit_DD : DOk Try.prog (DD [(101, dP D_impl_isNumber), (110, dP D_impl_isDay), (84, dP D_impl_within)]) := DD_cons D_impl_isNumber_ok.e <| DD_cons D_impl_isDay_ok.e <| DD_cons D_impl_within_ok.e <| DD_nil _
def impl_isVisit (a0 : Visit) : Bool :=
  (((impl_isNumber a0.Aid) && (impl_within a0.Every 1 3650)) && (impl_isDay a0.Last))

theorem impl_isVisit_den (a0 : Visit)  : Den Try.prog 133 [.agg (eVisit a0)] (.bool (impl_isVisit a0)) := by
  generalize hR : impl_isVisit a0 = r
  unfold impl_isVisit at hR
  refine den_intro G_ok Try.func133 (by kernel_rfl) rfl Try.ntmps133 (by rw [Try.results133]) (by simp) rfl ?_
  intro c hc hk
  simp only [pars, Nat.zero_add]
  refine AWP.seq ?_
  refine AWP.regS G_ok impl_isVisit_DD hc (by kernel_rfl) (fun K hK => ?_); simp only [ea, gv, sv, D_impl_isNumber, D_impl_isDay, D_impl_within, reduceCtorEq, reduceIte, Nat.reduceBEq, Nat.reduceAdd, Nat.reduceEqDiff, Nat.reduceLT, Nat.reduceLeDiff, Nat.reduceMul, Nat.reduceSub, BEq.rfl, beq_self_eq_true, Int.reduceToNat]
  first | refine hK _ ?_ | refine ⟨by (first | trivial | omega | (simp only [ob, ln, bdv, impl_within, sv] at *; omega) | ((try clear hK K); (repeat' first | apply And.intro | intro _) <;> first | trivial | omega | assumption | solve_by_elim | (apply bd_getD <;> first | assumption | decide) | (apply bd_subL <;> first | assumption | decide) | (simp only [ob, ln, bdv, impl_within, sv] at *; first | omega | assumption | (simp_all; done) | grind))), hK _ ?_⟩
  clear hK K
  refine AWP.seq ?_
  refine AWP.regS G_ok impl_isVisit_DD hc (by kernel_rfl) (fun K hK => ?_); simp only [ea, gv, sv, D_impl_isNumber, D_impl_isDay, D_impl_within, reduceCtorEq, reduceIte, Nat.reduceBEq, Nat.reduceAdd, Nat.reduceEqDiff, Nat.reduceLT, Nat.reduceLeDiff, Nat.reduceMul, Nat.reduceSub, BEq.rfl, beq_self_eq_true, Int.reduceToNat]
  first | refine hK _ ?_ | refine ⟨by (first | trivial | omega | (simp only [ob, ln, bdv, impl_within, sv] at *; omega) | ((try clear hK K); (repeat' first | apply And.intro | intro _) <;> first | trivial | omega | assumption | solve_by_elim | (apply bd_getD <;> first | assumption | decide) | (apply bd_subL <;> first | assumption | decide) | (simp only [ob, ln, bdv, impl_within, sv] at *; first | omega | assumption | (simp_all; done) | grind))), hK _ ?_⟩
  clear hK K
  refine AWP.ret ?_
  subst hR
  (simp only [en, si, ea, gv, sv, hk, reduceCtorEq, reduceIte, Nat.reduceBEq, Nat.reduceAdd, Nat.reduceEqDiff, Nat.reduceLT, Nat.reduceLeDiff, Nat.reduceMul, Nat.reduceSub, BEq.rfl, beq_self_eq_true, Int.reduceToNat]; first | done | trivial | (and_intros <;> first | rfl | trivial | omega | (rw [IntKind.wrap_i64]; omega) | (simp only [ln]; done) | (simp only [ob, ln, bdv, impl_within, sv] at *; first | omega | grind) | (left; intro j hj; simp only [pw, Bool.cond_eq_ite, Bool.and_eq_true, decide_eq_true_eq]; (repeat' split) <;> simp [putL, NoBorL, NoBor]) | (intro j hj; simp only [pw, Bool.cond_eq_ite, Bool.and_eq_true, decide_eq_true_eq]; (try rw [subL_getD _ _ _ _ (by first | assumption | omega)]); (try rw [clearL_getD _ _ _ _ (by first | omega | (simp only [ob, ln, bdv] at *; omega))]); (repeat' split) <;> first | rfl | omega | exact simOL_refl _ | (simp_all; done) | (simp_all; rfl) | (simp_all; omega) | (simp_all; exact simOL_refl _) | (simp [putL, NoBorL, NoBor]; done))))

def D_impl_isVisit : DF
  | [x0] => some (.bool (impl_isVisit (rdG dVisit x0)), false, [wG eVisit dVisit x0])
  | _ => none
theorem D_impl_isVisit_ok : OkD Try.prog 133 D_impl_isVisit := by
  intro xs r z ob h ho
  unfold D_impl_isVisit at h
  split at h
  · simp only [Option.some.injEq, Prod.mk.injEq] at h
    obtain ⟨rfl, rfl, rfl⟩ := h
    obtain ⟨h0, _⟩ := ho
    exact Den.sim (impl_isVisit_den _ ) (simOL_cons (wG_sim h0).1 <| trivial) (noIdL_cons (wG_sim h0).2 <| rfl) rfl
  · cases h
end Go.Ab

namespace Go.Ab
open Go Go.Proofs
theorem impl_few_DD : DOk Try.prog (DD []) := DD_nil _
def impl_few (a0 : Int) (a1 : Int) : Bool :=
  decide (a0 ≤ a1)

theorem impl_few_den (a0 : Int) (a1 : Int)  : Den Try.prog 58 [.int .i64 a0, .int .i64 a1] (.bool (impl_few a0 a1)) := by
  generalize hR : impl_few a0 a1 = r
  unfold impl_few at hR
  refine den_intro G_ok Try.func58 (by kernel_rfl) rfl Try.ntmps58 (by rw [Try.results58]) (by simp) rfl ?_
  intro c hc hk
  simp only [pars, Nat.zero_add]
  refine AWP.seq ?_
  refine AWP.regS G_ok impl_few_DD hc (by kernel_rfl) (fun K hK => ?_); simp only [ea, gv, sv, reduceCtorEq, reduceIte, Nat.reduceBEq, Nat.reduceAdd, Nat.reduceEqDiff, Nat.reduceLT, Nat.reduceLeDiff, Nat.reduceMul, Nat.reduceSub, BEq.rfl, beq_self_eq_true, Int.reduceToNat]
  first | refine hK _ ?_ | refine ⟨by (first | trivial | omega | (simp only [ob, ln, bdv, sv] at *; omega) | ((try clear hK K); (repeat' first | apply And.intro | intro _) <;> first | trivial | omega | assumption | solve_by_elim | (apply bd_getD <;> first | assumption | decide) | (apply bd_subL <;> first | assumption | decide) | (simp only [ob, ln, bdv, sv] at *; first | omega | assumption | (simp_all; done) | grind))), hK _ ?_⟩
  clear hK K
  refine AWP.seq ?_
  refine AWP.regS G_ok impl_few_DD hc (by kernel_rfl) (fun K hK => ?_); simp only [ea, gv, sv, reduceCtorEq, reduceIte, Nat.reduceBEq, Nat.reduceAdd, Nat.reduceEqDiff, Nat.reduceLT, Nat.reduceLeDiff, Nat.reduceMul, Nat.reduceSub, BEq.rfl, beq_self_eq_true, Int.reduceToNat]
  first | refine hK _ ?_ | refine ⟨by (first | trivial | omega | (simp only [ob, ln, bdv, sv] at *; omega) | ((try clear hK K); (repeat' first | apply And.intro | intro _) <;> first | trivial | omega | assumption | solve_by_elim | (apply bd_getD <;> first | assumption | decide) | (apply bd_subL <;> first | assumption | decide) | (simp only [ob, ln, bdv, sv] at *; first | omega | assumption | (simp_all; done) | grind))), hK _ ?_⟩
  clear hK K
  refine AWP.ret ?_
  subst hR
  (simp only [en, si, ea, gv, sv, hk, reduceCtorEq, reduceIte, Nat.reduceBEq, Nat.reduceAdd, Nat.reduceEqDiff, Nat.reduceLT, Nat.reduceLeDiff, Nat.reduceMul, Nat.reduceSub, BEq.rfl, beq_self_eq_true, Int.reduceToNat]; first | done | trivial | (and_intros <;> first | rfl | trivial | omega | (rw [IntKind.wrap_i64]; omega) | (simp only [ln]; done) | (simp only [ob, ln, bdv, sv] at *; first | omega | grind) | (left; intro j hj; simp only [pw, Bool.cond_eq_ite, Bool.and_eq_true, decide_eq_true_eq]; (repeat' split) <;> simp [putL, NoBorL, NoBor]) | (intro j hj; simp only [pw, Bool.cond_eq_ite, Bool.and_eq_true, decide_eq_true_eq]; (try rw [subL_getD _ _ _ _ (by first | assumption | omega)]); (try rw [clearL_getD _ _ _ _ (by first | omega | (simp only [ob, ln, bdv] at *; omega))]); (repeat' split) <;> first | rfl | omega | exact simOL_refl _ | (simp_all; done) | (simp_all; rfl) | (simp_all; omega) | (simp_all; exact simOL_refl _) | (simp [putL, NoBorL, NoBor]; done))))

def D_impl_few : DF
  | [x0, x1] => some (.bool (impl_few (rdI x0) (rdI x1)), false, [wI .i64 x0, wI .i64 x1])
  | _ => none
theorem D_impl_few_ok : OkD Try.prog 58 D_impl_few := by
  intro xs r z ob h ho
  unfold D_impl_few at h
  split at h
  · simp only [Option.some.injEq, Prod.mk.injEq] at h
    obtain ⟨rfl, rfl, rfl⟩ := h
    obtain ⟨h0, h1, _⟩ := ho
    exact Den.sim (impl_few_den _ _ ) (simOL_cons (wI_sim h0).1 <| simOL_cons (wI_sim h1).1 <| trivial) (noIdL_cons (wI_sim h0).2 <| noIdL_cons (wI_sim h1).2 <| rfl) rfl
  · cases h
end Go.Ab

namespace Go.Ab
open Go Go.Proofs
theorem impl_ValidVisits_DD : DOk Try.prog (DD [(133, dP D_impl_isVisit), (58, dP D_impl_few)]) := DD_cons D_impl_isVisit_ok.e <| DD_cons D_impl_few_ok.e <| DD_nil _
def impl_ValidVisits_b1 (a0 : (List Visit)) (i1 : Nat) (s1 : Unit) : Except (Bool) (Unit) :=
  (bif ((!(impl_isVisit (a0.getD i1 default))) || (decide (0 < (i1 : Int)) && decide (((a0.getD i1 default).Aid) ≤ ((a0.getD ((IntKind.wrap .i64 ((i1 : Int) - 1)).toNat) default).Aid)))) then .error false else .ok ())

def impl_ValidVisits (a0 : (List Visit)) : Bool :=
  (match loopR (impl_ValidVisits_b1 a0) (a0.length - 0) 0 () with | .error e => e | .ok s1 => (impl_few (a0.length : Int) 24))

theorem impl_ValidVisits_den (a0 : (List Visit)) (hb0 : a0.length < 1099511627776) : Den Try.prog 109 [encL 3 eVisit a0] (.bool (impl_ValidVisits a0)) := by
  generalize hR : impl_ValidVisits a0 = r
  unfold impl_ValidVisits at hR
  refine den_intro G_ok Try.func109 (by kernel_rfl) rfl Try.ntmps109 (by rw [Try.results109]) (by simp) rfl ?_
  intro c hc hk
  simp only [pars, Nat.zero_add]
  refine AWP.seq ?_
  refine AWP.regS G_ok impl_ValidVisits_DD hc (by kernel_rfl) (fun K hK => ?_); simp only [ea, gv, sv, D_impl_isVisit, D_impl_few, reduceCtorEq, reduceIte, Nat.reduceBEq, Nat.reduceAdd, Nat.reduceEqDiff, Nat.reduceLT, Nat.reduceLeDiff, Nat.reduceMul, Nat.reduceSub, BEq.rfl, beq_self_eq_true, Int.reduceToNat]
  first | refine hK _ ?_ | refine ⟨by (first | trivial | omega | (simp only [ob, ln, bdv, sv] at *; omega) | ((try clear hK K); (repeat' first | apply And.intro | intro _) <;> first | trivial | omega | assumption | solve_by_elim | (apply bd_getD <;> first | assumption | decide) | (apply bd_subL <;> first | assumption | decide) | (simp only [ob, ln, bdv, sv] at *; first | omega | assumption | (simp_all; done) | grind))), hK _ ?_⟩
  clear hK K
  refine AWP.seq ?_
  refine AWP.seq ?_
  refine AWP.regS G_ok impl_ValidVisits_DD hc (by kernel_rfl) (fun K hK => ?_); simp only [ea, gv, sv, D_impl_isVisit, D_impl_few, reduceCtorEq, reduceIte, Nat.reduceBEq, Nat.reduceAdd, Nat.reduceEqDiff, Nat.reduceLT, Nat.reduceLeDiff, Nat.reduceMul, Nat.reduceSub, BEq.rfl, beq_self_eq_true, Int.reduceToNat]
  first | refine hK _ ?_ | refine ⟨by (first | trivial | omega | (simp only [ob, ln, bdv, sv] at *; omega) | ((try clear hK K); (repeat' first | apply And.intro | intro _) <;> first | trivial | omega | assumption | solve_by_elim | (apply bd_getD <;> first | assumption | decide) | (apply bd_subL <;> first | assumption | decide) | (simp only [ob, ln, bdv, sv] at *; first | omega | assumption | (simp_all; done) | grind))), hK _ ?_⟩
  clear hK K
  refine AWP.block ?_
  generalize hz1 : loopR (impl_ValidVisits_b1 a0) (a0.length - 0) 0 () = z1 at hR
  refine AWP.range (impl_ValidVisits_b1 a0) (fun i1 s1 => ⟨[(0, encL 3 eVisit a0), (5, encL 3 eVisit a0), (6, .int .i64 (a0.length : Int)), (7, .int .i64 (i1 : Int))], []⟩) (fun i1 s1 => True) (a0.length) 0 () [] hz1 (by (first | trivial | omega | (simp only [ob, ln, bdv, sv] at *; omega) | ((try clear hK K); (repeat' first | apply And.intro | intro _) <;> first | trivial | omega | assumption | solve_by_elim | (apply bd_getD <;> first | assumption | decide) | (apply bd_subL <;> first | assumption | decide) | (simp only [ob, ln, bdv, sv] at *; first | omega | assumption | (simp_all; done) | grind)))) (by (first | trivial | (and_intros <;> simp only [ln] <;> omega) | (and_intros <;> simp only [ob, ln] at * <;> omega) | (and_intros <;> first | trivial | omega | assumption | (apply bd_set <;> first | assumption | (apply bd_getD <;> first | assumption | decide)) | (apply bd_app <;> first | assumption | (apply bd_getD <;> first | assumption | decide)) | (simp only [ob, ln, bdv, sv] at *; omega) | (simp; done)))) (by (simp only [si, ea, gv, sv, hk, reduceCtorEq, reduceIte, Nat.reduceBEq, Nat.reduceAdd, Nat.reduceEqDiff, Nat.reduceLT, Nat.reduceLeDiff, Nat.reduceMul, Nat.reduceSub, BEq.rfl, beq_self_eq_true, Int.reduceToNat]; first | done | trivial | (and_intros <;> first | rfl | trivial | omega | (rw [IntKind.wrap_i64]; omega) | (simp only [ln]; done) | (simp only [ob, ln, bdv, sv] at *; first | omega | grind) | (left; intro j hj; simp only [pw, Bool.cond_eq_ite, Bool.and_eq_true, decide_eq_true_eq]; (repeat' split) <;> simp [putL, NoBorL, NoBor]) | (intro j hj; simp only [pw, Bool.cond_eq_ite, Bool.and_eq_true, decide_eq_true_eq]; (try rw [subL_getD _ _ _ _ (by first | assumption | omega)]); (try rw [clearL_getD _ _ _ _ (by first | omega | (simp only [ob, ln, bdv] at *; omega))]); (repeat' split) <;> first | rfl | omega | exact simOL_refl _ | (simp_all; done) | (simp_all; rfl) | (simp_all; omega) | (simp_all; exact simOL_refl _) | (simp [putL, NoBorL, NoBor]; done))))) ?_
  clear hz1
  intro i1 s1 hi1 hW1 hz1
  refine AWP.seq ?_
  refine AWP.regS G_ok impl_ValidVisits_DD hc (by kernel_rfl) (fun K hK => ?_); simp only [ea, gv, sv, D_impl_isVisit, D_impl_few, reduceCtorEq, reduceIte, Nat.reduceBEq, Nat.reduceAdd, Nat.reduceEqDiff, Nat.reduceLT, Nat.reduceLeDiff, Nat.reduceMul, Nat.reduceSub, BEq.rfl, beq_self_eq_true, Int.reduceToNat]
  first | refine hK _ ?_ | refine ⟨by (first | trivial | omega | (simp only [ob, ln, bdv, sv] at *; omega) | ((try clear hK K); (repeat' first | apply And.intro | intro _) <;> first | trivial | omega | assumption | solve_by_elim | (apply bd_getD <;> first | assumption | decide) | (apply bd_subL <;> first | assumption | decide) | (simp only [ob, ln, bdv, sv] at *; first | omega | assumption | (simp_all; done) | grind))), hK _ ?_⟩
  clear hK K
  refine AWP.seq ?_
  refine AWP.cond rfl (fun hb => ?_) (fun hb => ?_)
  · have hlt1 : i1 < a0.length := by (first | trivial | omega | (simp only [ob, ln, bdv, sv] at *; omega) | ((try clear hK K); (repeat' first | apply And.intro | intro _) <;> first | trivial | omega | assumption | solve_by_elim | (apply bd_getD <;> first | assumption | decide) | (apply bd_subL <;> first | assumption | decide) | (simp only [ob, ln, bdv, sv] at *; first | omega | assumption | (simp_all; done) | grind)))
    rw [loopR_lt hlt1] at hz1; simp only [impl_ValidVisits_b1] at hz1
    refine AWP.skip ?_
    refine AWP.seq ?_
    refine AWP.block ?_
    refine AWP.seq ?_
    refine AWP.regS G_ok impl_ValidVisits_DD hc (by kernel_rfl) (fun K hK => ?_); simp only [ea, gv, sv, D_impl_isVisit, D_impl_few, reduceCtorEq, reduceIte, Nat.reduceBEq, Nat.reduceAdd, Nat.reduceEqDiff, Nat.reduceLT, Nat.reduceLeDiff, Nat.reduceMul, Nat.reduceSub, BEq.rfl, beq_self_eq_true, Int.reduceToNat]
    first | refine hK _ ?_ | refine ⟨by (first | trivial | omega | (simp only [ob, ln, bdv, sv] at *; omega) | ((try clear hK K); (repeat' first | apply And.intro | intro _) <;> first | trivial | omega | assumption | solve_by_elim | (apply bd_getD <;> first | assumption | decide) | (apply bd_subL <;> first | assumption | decide) | (simp only [ob, ln, bdv, sv] at *; first | omega | assumption | (simp_all; done) | grind))), hK _ ?_⟩
    clear hK K
    refine AWP.seq ?_
    refine AWP.regM mixed G_ok impl_ValidVisits_DD hc (by kernel_rfl) (by kernel_rfl) (fun K hK => ?_); simp only [ea, gv, sv, D_impl_isVisit, D_impl_few, reduceCtorEq, reduceIte, Nat.reduceBEq, Nat.reduceAdd, Nat.reduceEqDiff, Nat.reduceLT, Nat.reduceLeDiff, Nat.reduceMul, Nat.reduceSub, BEq.rfl, beq_self_eq_true, Int.reduceToNat]
    first | refine hK _ ?_ | refine ⟨by (first | trivial | omega | (simp only [ob, ln, bdv, sv] at *; omega) | ((try clear hK K); (repeat' first | apply And.intro | intro _) <;> first | trivial | omega | assumption | solve_by_elim | (apply bd_getD <;> first | assumption | decide) | (apply bd_subL <;> first | assumption | decide) | (simp only [ob, ln, bdv, sv] at *; first | omega | assumption | (simp_all; done) | grind))), hK _ ?_⟩
    clear hK K
    refine AWP.cond rfl (fun hb => ?_) (fun hb => ?_)
    · first | simp only [hb, cond_true] at hz1 | (simp only [*] at hb; simp only [hb, cond_true] at hz1)
      refine AWP.seq ?_
      refine AWP.regS G_ok impl_ValidVisits_DD hc (by kernel_rfl) (fun K hK => ?_); simp only [ea, gv, sv, D_impl_isVisit, D_impl_few, reduceCtorEq, reduceIte, Nat.reduceBEq, Nat.reduceAdd, Nat.reduceEqDiff, Nat.reduceLT, Nat.reduceLeDiff, Nat.reduceMul, Nat.reduceSub, BEq.rfl, beq_self_eq_true, Int.reduceToNat]
      first | refine hK _ ?_ | refine ⟨by (first | trivial | omega | (simp only [ob, ln, bdv, sv] at *; omega) | ((try clear hK K); (repeat' first | apply And.intro | intro _) <;> first | trivial | omega | assumption | solve_by_elim | (apply bd_getD <;> first | assumption | decide) | (apply bd_subL <;> first | assumption | decide) | (simp only [ob, ln, bdv, sv] at *; first | omega | assumption | (simp_all; done) | grind))), hK _ ?_⟩
      clear hK K
      refine AWP.ret ?_
      subst hz1
      dsimp only at hR
      subst hR
      (simp only [en, si, ea, gv, sv, hk, reduceCtorEq, reduceIte, Nat.reduceBEq, Nat.reduceAdd, Nat.reduceEqDiff, Nat.reduceLT, Nat.reduceLeDiff, Nat.reduceMul, Nat.reduceSub, BEq.rfl, beq_self_eq_true, Int.reduceToNat]; first | done | trivial | (and_intros <;> first | rfl | trivial | omega | (rw [IntKind.wrap_i64]; omega) | (simp only [ln]; done) | (simp only [ob, ln, bdv, sv] at *; first | omega | grind) | (left; intro j hj; simp only [pw, Bool.cond_eq_ite, Bool.and_eq_true, decide_eq_true_eq]; (repeat' split) <;> simp [putL, NoBorL, NoBor]) | (intro j hj; simp only [pw, Bool.cond_eq_ite, Bool.and_eq_true, decide_eq_true_eq]; (try rw [subL_getD _ _ _ _ (by first | assumption | omega)]); (try rw [clearL_getD _ _ _ _ (by first | omega | (simp only [ob, ln, bdv] at *; omega))]); (repeat' split) <;> first | rfl | omega | exact simOL_refl _ | (simp_all; done) | (simp_all; rfl) | (simp_all; omega) | (simp_all; exact simOL_refl _) | (simp [putL, NoBorL, NoBor]; done))))
    · first | simp only [hb, cond_false] at hz1 | (simp only [*] at hb; simp only [hb, cond_false] at hz1)
      refine AWP.skip ?_
      refine AWP.regS G_ok impl_ValidVisits_DD hc (by kernel_rfl) (fun K hK => ?_); simp only [ea, gv, sv, D_impl_isVisit, D_impl_few, reduceCtorEq, reduceIte, Nat.reduceBEq, Nat.reduceAdd, Nat.reduceEqDiff, Nat.reduceLT, Nat.reduceLeDiff, Nat.reduceMul, Nat.reduceSub, BEq.rfl, beq_self_eq_true, Int.reduceToNat]
      first | refine hK _ ?_ | refine ⟨by (first | trivial | omega | (simp only [ob, ln, bdv, sv] at *; omega) | ((try clear hK K); (repeat' first | apply And.intro | intro _) <;> first | trivial | omega | assumption | solve_by_elim | (apply bd_getD <;> first | assumption | decide) | (apply bd_subL <;> first | assumption | decide) | (simp only [ob, ln, bdv, sv] at *; first | omega | assumption | (simp_all; done) | grind))), hK _ ?_⟩
      clear hK K
      exact ⟨_, [], hlt1, by (first | trivial | (and_intros <;> simp only [ln] <;> omega) | (and_intros <;> simp only [ob, ln] at * <;> omega) | (and_intros <;> first | trivial | omega | assumption | (apply bd_set <;> first | assumption | (apply bd_getD <;> first | assumption | decide)) | (apply bd_app <;> first | assumption | (apply bd_getD <;> first | assumption | decide)) | (simp only [ob, ln, bdv, sv] at *; omega) | (simp; done))), hz1, by (simp only [si, ea, gv, sv, hk, reduceCtorEq, reduceIte, Nat.reduceBEq, Nat.reduceAdd, Nat.reduceEqDiff, Nat.reduceLT, Nat.reduceLeDiff, Nat.reduceMul, Nat.reduceSub, BEq.rfl, beq_self_eq_true, Int.reduceToNat]; first | done | trivial | (and_intros <;> first | rfl | trivial | omega | (rw [IntKind.wrap_i64]; omega) | (simp only [ln]; done) | (simp only [ob, ln, bdv, sv] at *; first | omega | grind) | (left; intro j hj; simp only [pw, Bool.cond_eq_ite, Bool.and_eq_true, decide_eq_true_eq]; (repeat' split) <;> simp [putL, NoBorL, NoBor]) | (intro j hj; simp only [pw, Bool.cond_eq_ite, Bool.and_eq_true, decide_eq_true_eq]; (try rw [subL_getD _ _ _ _ (by first | assumption | omega)]); (try rw [clearL_getD _ _ _ _ (by first | omega | (simp only [ob, ln, bdv] at *; omega))]); (repeat' split) <;> first | rfl | omega | exact simOL_refl _ | (simp_all; done) | (simp_all; rfl) | (simp_all; omega) | (simp_all; exact simOL_refl _) | (simp [putL, NoBorL, NoBor]; done))))⟩
  · obtain rfl : i1 = a0.length := by (first | trivial | omega | (simp only [ob, ln, bdv, sv] at *; omega) | ((try clear hK K); (repeat' first | apply And.intro | intro _) <;> first | trivial | omega | assumption | solve_by_elim | (apply bd_getD <;> first | assumption | decide) | (apply bd_subL <;> first | assumption | decide) | (simp only [ob, ln, bdv, sv] at *; first | omega | assumption | (simp_all; done) | grind)))
    rw [loopR_ge (Nat.le_refl _)] at hz1; subst hz1; dsimp only at hR
    refine AWP.exit ?_; refine exitTo_here ?_
    refine AWP.seq ?_
    refine AWP.regS G_ok impl_ValidVisits_DD hc (by kernel_rfl) (fun K hK => ?_); simp only [ea, gv, sv, D_impl_isVisit, D_impl_few, reduceCtorEq, reduceIte, Nat.reduceBEq, Nat.reduceAdd, Nat.reduceEqDiff, Nat.reduceLT, Nat.reduceLeDiff, Nat.reduceMul, Nat.reduceSub, BEq.rfl, beq_self_eq_true, Int.reduceToNat]
    first | refine hK _ ?_ | refine ⟨by (first | trivial | omega | (simp only [ob, ln, bdv, sv] at *; omega) | ((try clear hK K); (repeat' first | apply And.intro | intro _) <;> first | trivial | omega | assumption | solve_by_elim | (apply bd_getD <;> first | assumption | decide) | (apply bd_subL <;> first | assumption | decide) | (simp only [ob, ln, bdv, sv] at *; first | omega | assumption | (simp_all; done) | grind))), hK _ ?_⟩
    clear hK K
    refine AWP.ret ?_
    subst hR
    (simp only [en, si, ea, gv, sv, hk, reduceCtorEq, reduceIte, Nat.reduceBEq, Nat.reduceAdd, Nat.reduceEqDiff, Nat.reduceLT, Nat.reduceLeDiff, Nat.reduceMul, Nat.reduceSub, BEq.rfl, beq_self_eq_true, Int.reduceToNat]; first | done | trivial | (and_intros <;> first | rfl | trivial | omega | (rw [IntKind.wrap_i64]; omega) | (simp only [ln]; done) | (simp only [ob, ln, bdv, sv] at *; first | omega | grind) | (left; intro j hj; simp only [pw, Bool.cond_eq_ite, Bool.and_eq_true, decide_eq_true_eq]; (repeat' split) <;> simp [putL, NoBorL, NoBor]) | (intro j hj; simp only [pw, Bool.cond_eq_ite, Bool.and_eq_true, decide_eq_true_eq]; (try rw [subL_getD _ _ _ _ (by first | assumption | omega)]); (try rw [clearL_getD _ _ _ _ (by first | omega | (simp only [ob, ln, bdv] at *; omega))]); (repeat' split) <;> first | rfl | omega | exact simOL_refl _ | (simp_all; done) | (simp_all; rfl) | (simp_all; omega) | (simp_all; exact simOL_refl _) | (simp [putL, NoBorL, NoBor]; done))))

def D_impl_ValidVisits : DF
  | [x0] => some (.bool (impl_ValidVisits (rdL dVisit x0)), false, [wL 3 eVisit dVisit x0, (rdL dVisit x0).length < 1099511627776])
  | _ => none
theorem D_impl_ValidVisits_ok : OkD Try.prog 109 D_impl_ValidVisits := by
  intro xs r z ob h ho
  unfold D_impl_ValidVisits at h
  split at h
  · simp only [Option.some.injEq, Prod.mk.injEq] at h
    obtain ⟨rfl, rfl, rfl⟩ := h
    obtain ⟨h0, hb0, _⟩ := ho
    exact Den.sim (impl_ValidVisits_den _ hb0) (simOL_cons (wL_sim h0).1 <| trivial) (noIdL_cons (wL_sim h0).2 <| rfl) rfl
  · cases h
end Go.Ab

namespace Go.Ab
open Go Go.Proofs
theorem impl_visitCode_DD : DOk Try.prog (DD [(109, dP D_impl_ValidVisits), (110, dP D_impl_isDay), (111, dP D_impl_visitOf)]) := DD_cons D_impl_ValidVisits_ok.e <| DD_cons D_impl_isDay_ok.e <| DD_cons D_impl_visitOf_ok.e <| DD_nil _
def impl_visitCode (a0 : (List Visit)) (a1 : Int) (a2 : Int) : (Int × Int) :=
  (bif (!(impl_ValidVisits a0)) then (0, 1) else (bif (!(impl_isDay a2)) then (0, 2) else (bif decide ((impl_visitOf a0 a1) < 0) then (0, 3) else ((impl_visitOf a0 a1), 0))))

theorem impl_visitCode_den (a0 : (List Visit)) (a1 : Int) (a2 : Int) (hb0 : a0.length < 1099511627776) : Den Try.prog 64 [encL 3 eVisit a0, .int .i64 a1, .int .i64 a2] (.tup [.int .i64 ((impl_visitCode a0 a1 a2).1), .int .i64 ((impl_visitCode a0 a1 a2).2)]) := by
  generalize hR : impl_visitCode a0 a1 a2 = r
  unfold impl_visitCode at hR
  refine den_intro G_ok Try.func64 (by kernel_rfl) rfl Try.ntmps64 (by rw [Try.results64]) (by simp) rfl ?_
  intro c hc hk
  simp only [pars, Nat.zero_add]
  refine AWP.seq ?_
  refine AWP.regS G_ok impl_visitCode_DD hc (by kernel_rfl) (fun K hK => ?_); simp only [ea, gv, sv, D_impl_ValidVisits, D_impl_isDay, D_impl_visitOf, reduceCtorEq, reduceIte, Nat.reduceBEq, Nat.reduceAdd, Nat.reduceEqDiff, Nat.reduceLT, Nat.reduceLeDiff, Nat.reduceMul, Nat.reduceSub, BEq.rfl, beq_self_eq_true, Int.reduceToNat]
  first | refine hK _ ?_ | refine ⟨by (first | trivial | omega | (simp only [ob, ln, bdv, sv] at *; omega) | ((try clear hK K); (repeat' first | apply And.intro | intro _) <;> first | trivial | omega | assumption | solve_by_elim | (apply bd_getD <;> first | assumption | decide) | (apply bd_subL <;> first | assumption | decide) | (simp only [ob, ln, bdv, sv] at *; first | omega | assumption | (simp_all; done) | grind [impl_visitOf_lt]))), hK _ ?_⟩
  clear hK K
  refine AWP.seq ?_
  refine AWP.seq ?_
  refine AWP.regS G_ok impl_visitCode_DD hc (by kernel_rfl) (fun K hK => ?_); simp only [ea, gv, sv, D_impl_ValidVisits, D_impl_isDay, D_impl_visitOf, reduceCtorEq, reduceIte, Nat.reduceBEq, Nat.reduceAdd, Nat.reduceEqDiff, Nat.reduceLT, Nat.reduceLeDiff, Nat.reduceMul, Nat.reduceSub, BEq.rfl, beq_self_eq_true, Int.reduceToNat]
  first | refine hK _ ?_ | refine ⟨by (first | trivial | omega | (simp only [ob, ln, bdv, sv] at *; omega) | ((try clear hK K); (repeat' first | apply And.intro | intro _) <;> first | trivial | omega | assumption | solve_by_elim | (apply bd_getD <;> first | assumption | decide) | (apply bd_subL <;> first | assumption | decide) | (simp only [ob, ln, bdv, sv] at *; first | omega | assumption | (simp_all; done) | grind [impl_visitOf_lt]))), hK _ ?_⟩
  clear hK K
  refine AWP.cond rfl (fun hb => ?_) (fun hb => ?_)
  · first | simp only [hb, cond_true] at hR | (simp only [*] at hb; simp only [hb, cond_true] at hR)
    refine AWP.seq ?_
    refine AWP.regS G_ok impl_visitCode_DD hc (by kernel_rfl) (fun K hK => ?_); simp only [ea, gv, sv, D_impl_ValidVisits, D_impl_isDay, D_impl_visitOf, reduceCtorEq, reduceIte, Nat.reduceBEq, Nat.reduceAdd, Nat.reduceEqDiff, Nat.reduceLT, Nat.reduceLeDiff, Nat.reduceMul, Nat.reduceSub, BEq.rfl, beq_self_eq_true, Int.reduceToNat]
    first | refine hK _ ?_ | refine ⟨by (first | trivial | omega | (simp only [ob, ln, bdv, sv] at *; omega) | ((try clear hK K); (repeat' first | apply And.intro | intro _) <;> first | trivial | omega | assumption | solve_by_elim | (apply bd_getD <;> first | assumption | decide) | (apply bd_subL <;> first | assumption | decide) | (simp only [ob, ln, bdv, sv] at *; first | omega | assumption | (simp_all; done) | grind [impl_visitOf_lt]))), hK _ ?_⟩
    clear hK K
    refine AWP.ret ?_
    subst hR
    (simp only [en, si, ea, gv, sv, hk, reduceCtorEq, reduceIte, Nat.reduceBEq, Nat.reduceAdd, Nat.reduceEqDiff, Nat.reduceLT, Nat.reduceLeDiff, Nat.reduceMul, Nat.reduceSub, BEq.rfl, beq_self_eq_true, Int.reduceToNat]; first | done | trivial | (and_intros <;> first | rfl | trivial | omega | (rw [IntKind.wrap_i64]; omega) | (simp only [ln]; done) | (simp only [ob, ln, bdv, sv] at *; first | omega | grind [impl_visitOf_lt]) | (left; intro j hj; simp only [pw, Bool.cond_eq_ite, Bool.and_eq_true, decide_eq_true_eq]; (repeat' split) <;> simp [putL, NoBorL, NoBor]) | (intro j hj; simp only [pw, Bool.cond_eq_ite, Bool.and_eq_true, decide_eq_true_eq]; (try rw [subL_getD _ _ _ _ (by first | assumption | omega)]); (try rw [clearL_getD _ _ _ _ (by first | omega | (simp only [ob, ln, bdv] at *; omega))]); (repeat' split) <;> first | rfl | omega | exact simOL_refl _ | (simp_all; done) | (simp_all; rfl) | (simp_all; omega) | (simp_all; exact simOL_refl _) | (simp [putL, NoBorL, NoBor]; done))))
  · first | simp only [hb, cond_false] at hR | (simp only [*] at hb; simp only [hb, cond_false] at hR)
    refine AWP.skip ?_
    refine AWP.seq ?_
    refine AWP.seq ?_
    refine AWP.regS G_ok impl_visitCode_DD hc (by kernel_rfl) (fun K hK => ?_); simp only [ea, gv, sv, D_impl_ValidVisits, D_impl_isDay, D_impl_visitOf, reduceCtorEq, reduceIte, Nat.reduceBEq, Nat.reduceAdd, Nat.reduceEqDiff, Nat.reduceLT, Nat.reduceLeDiff, Nat.reduceMul, Nat.reduceSub, BEq.rfl, beq_self_eq_true, Int.reduceToNat]
    first | refine hK _ ?_ | refine ⟨by (first | trivial | omega | (simp only [ob, ln, bdv, sv] at *; omega) | ((try clear hK K); (repeat' first | apply And.intro | intro _) <;> first | trivial | omega | assumption | solve_by_elim | (apply bd_getD <;> first | assumption | decide) | (apply bd_subL <;> first | assumption | decide) | (simp only [ob, ln, bdv, sv] at *; first | omega | assumption | (simp_all; done) | grind [impl_visitOf_lt]))), hK _ ?_⟩
    clear hK K
    refine AWP.cond rfl (fun hb => ?_) (fun hb => ?_)
    · first | simp only [hb, cond_true] at hR | (simp only [*] at hb; simp only [hb, cond_true] at hR)
      refine AWP.seq ?_
      refine AWP.regS G_ok impl_visitCode_DD hc (by kernel_rfl) (fun K hK => ?_); simp only [ea, gv, sv, D_impl_ValidVisits, D_impl_isDay, D_impl_visitOf, reduceCtorEq, reduceIte, Nat.reduceBEq, Nat.reduceAdd, Nat.reduceEqDiff, Nat.reduceLT, Nat.reduceLeDiff, Nat.reduceMul, Nat.reduceSub, BEq.rfl, beq_self_eq_true, Int.reduceToNat]
      first | refine hK _ ?_ | refine ⟨by (first | trivial | omega | (simp only [ob, ln, bdv, sv] at *; omega) | ((try clear hK K); (repeat' first | apply And.intro | intro _) <;> first | trivial | omega | assumption | solve_by_elim | (apply bd_getD <;> first | assumption | decide) | (apply bd_subL <;> first | assumption | decide) | (simp only [ob, ln, bdv, sv] at *; first | omega | assumption | (simp_all; done) | grind [impl_visitOf_lt]))), hK _ ?_⟩
      clear hK K
      refine AWP.ret ?_
      subst hR
      (simp only [en, si, ea, gv, sv, hk, reduceCtorEq, reduceIte, Nat.reduceBEq, Nat.reduceAdd, Nat.reduceEqDiff, Nat.reduceLT, Nat.reduceLeDiff, Nat.reduceMul, Nat.reduceSub, BEq.rfl, beq_self_eq_true, Int.reduceToNat]; first | done | trivial | (and_intros <;> first | rfl | trivial | omega | (rw [IntKind.wrap_i64]; omega) | (simp only [ln]; done) | (simp only [ob, ln, bdv, sv] at *; first | omega | grind [impl_visitOf_lt]) | (left; intro j hj; simp only [pw, Bool.cond_eq_ite, Bool.and_eq_true, decide_eq_true_eq]; (repeat' split) <;> simp [putL, NoBorL, NoBor]) | (intro j hj; simp only [pw, Bool.cond_eq_ite, Bool.and_eq_true, decide_eq_true_eq]; (try rw [subL_getD _ _ _ _ (by first | assumption | omega)]); (try rw [clearL_getD _ _ _ _ (by first | omega | (simp only [ob, ln, bdv] at *; omega))]); (repeat' split) <;> first | rfl | omega | exact simOL_refl _ | (simp_all; done) | (simp_all; rfl) | (simp_all; omega) | (simp_all; exact simOL_refl _) | (simp [putL, NoBorL, NoBor]; done))))
    · first | simp only [hb, cond_false] at hR | (simp only [*] at hb; simp only [hb, cond_false] at hR)
      refine AWP.skip ?_
      refine AWP.seq ?_
      refine AWP.regS G_ok impl_visitCode_DD hc (by kernel_rfl) (fun K hK => ?_); simp only [ea, gv, sv, D_impl_ValidVisits, D_impl_isDay, D_impl_visitOf, reduceCtorEq, reduceIte, Nat.reduceBEq, Nat.reduceAdd, Nat.reduceEqDiff, Nat.reduceLT, Nat.reduceLeDiff, Nat.reduceMul, Nat.reduceSub, BEq.rfl, beq_self_eq_true, Int.reduceToNat]
      first | refine hK _ ?_ | refine ⟨by (first | trivial | omega | (simp only [ob, ln, bdv, sv] at *; omega) | ((try clear hK K); (repeat' first | apply And.intro | intro _) <;> first | trivial | omega | assumption | solve_by_elim | (apply bd_getD <;> first | assumption | decide) | (apply bd_subL <;> first | assumption | decide) | (simp only [ob, ln, bdv, sv] at *; first | omega | assumption | (simp_all; done) | grind [impl_visitOf_lt]))), hK _ ?_⟩
      clear hK K
      refine AWP.seq ?_
      refine AWP.seq ?_
      refine AWP.regS G_ok impl_visitCode_DD hc (by kernel_rfl) (fun K hK => ?_); simp only [ea, gv, sv, D_impl_ValidVisits, D_impl_isDay, D_impl_visitOf, reduceCtorEq, reduceIte, Nat.reduceBEq, Nat.reduceAdd, Nat.reduceEqDiff, Nat.reduceLT, Nat.reduceLeDiff, Nat.reduceMul, Nat.reduceSub, BEq.rfl, beq_self_eq_true, Int.reduceToNat]
      first | refine hK _ ?_ | refine ⟨by (first | trivial | omega | (simp only [ob, ln, bdv, sv] at *; omega) | ((try clear hK K); (repeat' first | apply And.intro | intro _) <;> first | trivial | omega | assumption | solve_by_elim | (apply bd_getD <;> first | assumption | decide) | (apply bd_subL <;> first | assumption | decide) | (simp only [ob, ln, bdv, sv] at *; first | omega | assumption | (simp_all; done) | grind [impl_visitOf_lt]))), hK _ ?_⟩
      clear hK K
      refine AWP.cond rfl (fun hb => ?_) (fun hb => ?_)
      · first | simp only [hb, cond_true] at hR | (simp only [*] at hb; simp only [hb, cond_true] at hR)
        refine AWP.seq ?_
        refine AWP.regS G_ok impl_visitCode_DD hc (by kernel_rfl) (fun K hK => ?_); simp only [ea, gv, sv, D_impl_ValidVisits, D_impl_isDay, D_impl_visitOf, reduceCtorEq, reduceIte, Nat.reduceBEq, Nat.reduceAdd, Nat.reduceEqDiff, Nat.reduceLT, Nat.reduceLeDiff, Nat.reduceMul, Nat.reduceSub, BEq.rfl, beq_self_eq_true, Int.reduceToNat]
        first | refine hK _ ?_ | refine ⟨by (first | trivial | omega | (simp only [ob, ln, bdv, sv] at *; omega) | ((try clear hK K); (repeat' first | apply And.intro | intro _) <;> first | trivial | omega | assumption | solve_by_elim | (apply bd_getD <;> first | assumption | decide) | (apply bd_subL <;> first | assumption | decide) | (simp only [ob, ln, bdv, sv] at *; first | omega | assumption | (simp_all; done) | grind [impl_visitOf_lt]))), hK _ ?_⟩
        clear hK K
        refine AWP.ret ?_
        subst hR
        (simp only [en, si, ea, gv, sv, hk, reduceCtorEq, reduceIte, Nat.reduceBEq, Nat.reduceAdd, Nat.reduceEqDiff, Nat.reduceLT, Nat.reduceLeDiff, Nat.reduceMul, Nat.reduceSub, BEq.rfl, beq_self_eq_true, Int.reduceToNat]; first | done | trivial | (and_intros <;> first | rfl | trivial | omega | (rw [IntKind.wrap_i64]; omega) | (simp only [ln]; done) | (simp only [ob, ln, bdv, sv] at *; first | omega | grind [impl_visitOf_lt]) | (left; intro j hj; simp only [pw, Bool.cond_eq_ite, Bool.and_eq_true, decide_eq_true_eq]; (repeat' split) <;> simp [putL, NoBorL, NoBor]) | (intro j hj; simp only [pw, Bool.cond_eq_ite, Bool.and_eq_true, decide_eq_true_eq]; (try rw [subL_getD _ _ _ _ (by first | assumption | omega)]); (try rw [clearL_getD _ _ _ _ (by first | omega | (simp only [ob, ln, bdv] at *; omega))]); (repeat' split) <;> first | rfl | omega | exact simOL_refl _ | (simp_all; done) | (simp_all; rfl) | (simp_all; omega) | (simp_all; exact simOL_refl _) | (simp [putL, NoBorL, NoBor]; done))))
      · first | simp only [hb, cond_false] at hR | (simp only [*] at hb; simp only [hb, cond_false] at hR)
        refine AWP.skip ?_
        refine AWP.seq ?_
        refine AWP.regS G_ok impl_visitCode_DD hc (by kernel_rfl) (fun K hK => ?_); simp only [ea, gv, sv, D_impl_ValidVisits, D_impl_isDay, D_impl_visitOf, reduceCtorEq, reduceIte, Nat.reduceBEq, Nat.reduceAdd, Nat.reduceEqDiff, Nat.reduceLT, Nat.reduceLeDiff, Nat.reduceMul, Nat.reduceSub, BEq.rfl, beq_self_eq_true, Int.reduceToNat]
        first | refine hK _ ?_ | refine ⟨by (first | trivial | omega | (simp only [ob, ln, bdv, sv] at *; omega) | ((try clear hK K); (repeat' first | apply And.intro | intro _) <;> first | trivial | omega | assumption | solve_by_elim | (apply bd_getD <;> first | assumption | decide) | (apply bd_subL <;> first | assumption | decide) | (simp only [ob, ln, bdv, sv] at *; first | omega | assumption | (simp_all; done) | grind [impl_visitOf_lt]))), hK _ ?_⟩
        clear hK K
        refine AWP.ret ?_
        subst hR
        (simp only [en, si, ea, gv, sv, hk, reduceCtorEq, reduceIte, Nat.reduceBEq, Nat.reduceAdd, Nat.reduceEqDiff, Nat.reduceLT, Nat.reduceLeDiff, Nat.reduceMul, Nat.reduceSub, BEq.rfl, beq_self_eq_true, Int.reduceToNat]; first | done | trivial | (and_intros <;> first | rfl | trivial | omega | (rw [IntKind.wrap_i64]; omega) | (simp only [ln]; done) | (simp only [ob, ln, bdv, sv] at *; first | omega | grind [impl_visitOf_lt]) | (left; intro j hj; simp only [pw, Bool.cond_eq_ite, Bool.and_eq_true, decide_eq_true_eq]; (repeat' split) <;> simp [putL, NoBorL, NoBor]) | (intro j hj; simp only [pw, Bool.cond_eq_ite, Bool.and_eq_true, decide_eq_true_eq]; (try rw [subL_getD _ _ _ _ (by first | assumption | omega)]); (try rw [clearL_getD _ _ _ _ (by first | omega | (simp only [ob, ln, bdv] at *; omega))]); (repeat' split) <;> first | rfl | omega | exact simOL_refl _ | (simp_all; done) | (simp_all; rfl) | (simp_all; omega) | (simp_all; exact simOL_refl _) | (simp [putL, NoBorL, NoBor]; done))))

def D_impl_visitCode : DF
  | [x0, x1, x2] => some (.tup [.int .i64 ((impl_visitCode (rdL dVisit x0) (rdI x1) (rdI x2)).1), .int .i64 ((impl_visitCode (rdL dVisit x0) (rdI x1) (rdI x2)).2)], false, [wL 3 eVisit dVisit x0, wI .i64 x1, wI .i64 x2, (rdL dVisit x0).length < 1099511627776])
  | _ => none
theorem D_impl_visitCode_ok : OkD Try.prog 64 D_impl_visitCode := by
  intro xs r z ob h ho
  unfold D_impl_visitCode at h
  split at h
  · simp only [Option.some.injEq, Prod.mk.injEq] at h
    obtain ⟨rfl, rfl, rfl⟩ := h
    obtain ⟨h0, h1, h2, hb0, _⟩ := ho
    exact Den.sim (impl_visitCode_den _ _ _ hb0) (simOL_cons (wL_sim h0).1 <| simOL_cons (wI_sim h1).1 <| simOL_cons (wI_sim h2).1 <| trivial) (noIdL_cons (wL_sim h0).2 <| noIdL_cons (wI_sim h1).2 <| noIdL_cons (wI_sim h2).2 <| rfl) rfl
  · cases h
end Go.Ab

namespace Go.Ab
open Go Go.Proofs
theorem impl_visitCode_lt (a0 : List Visit) (a1 a2 : Int) : (impl_visitCode a0 a1 a2).2 ≠ 0 ∨ (0 ≤ (impl_visitCode a0 a1 a2).1 ∧ (impl_visitCode a0 a1 a2).1 < a0.length) := by
  refine Classical.or_iff_not_imp_left.2 fun h => ?_
  replace h := Classical.not_not.1 h
  unfold impl_visitCode at *
  cases h1 : impl_ValidVisits a0 with
  | false => rw [h1] at h; simp at h
  | true =>
    cases h2 : impl_isDay a2 with
    | false => rw [h1, h2] at h; simp at h
    | true =>
      cases h3 : decide (impl_visitOf a0 a1 < 0) with
      | true => rw [h1, h2, h3] at h; simp at h
      | false =>
        have h4 := of_decide_eq_false h3
        have := impl_visitOf_lt a0 a1
        simp only [Bool.not_true, cond_false]
        omega
end Go.Ab

namespace Go.Ab
open Go Go.Proofs
theorem spec_l30Find_DD : DOk Try.prog (DD []) := DD_nil _
def spec_l30Find_b1 (a0 : (List Visit)) (a1 : Int) (i1 : Nat) (s1 : Unit) : Except (Int) (Unit) :=
  (bif (((a0.getD i1 default).Aid) == a1) then .error (i1 : Int) else .ok ())

def spec_l30Find (a0 : (List Visit)) (a1 : Int) : Int :=
  (match loopR (spec_l30Find_b1 a0 a1) (a0.length - 0) 0 () with | .error e => e | .ok s1 => (-1))

theorem spec_l30Find_den (a0 : (List Visit)) (a1 : Int) (hb0 : a0.length < 1099511627776) : Den Try.prog 62 [encL 3 eVisit a0, .int .i64 a1] (.int .i64 (spec_l30Find a0 a1)) := by
  generalize hR : spec_l30Find a0 a1 = r
  unfold spec_l30Find at hR
  refine den_intro G_ok Try.func62 (by kernel_rfl) rfl Try.ntmps62 (by rw [Try.results62]) (by simp) rfl ?_
  intro c hc hk
  simp only [pars, Nat.zero_add]
  refine AWP.seq ?_
  refine AWP.regS G_ok spec_l30Find_DD hc (by kernel_rfl) (fun K hK => ?_); simp only [ea, gv, sv, reduceCtorEq, reduceIte, Nat.reduceBEq, Nat.reduceAdd, Nat.reduceEqDiff, Nat.reduceLT, Nat.reduceLeDiff, Nat.reduceMul, Nat.reduceSub, BEq.rfl, beq_self_eq_true, Int.reduceToNat]
  first | refine hK _ ?_ | refine ⟨by (first | trivial | omega | (simp only [ob, ln, bdv, sv] at *; omega) | ((try clear hK K); (repeat' first | apply And.intro | intro _) <;> first | trivial | omega | assumption | solve_by_elim | (apply bd_getD <;> first | assumption | decide) | (apply bd_subL <;> first | assumption | decide) | (simp only [ob, ln, bdv, sv] at *; first | omega | assumption | (simp_all; done) | grind))), hK _ ?_⟩
  clear hK K
  refine AWP.seq ?_
  refine AWP.seq ?_
  refine AWP.regS G_ok spec_l30Find_DD hc (by kernel_rfl) (fun K hK => ?_); simp only [ea, gv, sv, reduceCtorEq, reduceIte, Nat.reduceBEq, Nat.reduceAdd, Nat.reduceEqDiff, Nat.reduceLT, Nat.reduceLeDiff, Nat.reduceMul, Nat.reduceSub, BEq.rfl, beq_self_eq_true, Int.reduceToNat]
  first | refine hK _ ?_ | refine ⟨by (first | trivial | omega | (simp only [ob, ln, bdv, sv] at *; omega) | ((try clear hK K); (repeat' first | apply And.intro | intro _) <;> first | trivial | omega | assumption | solve_by_elim | (apply bd_getD <;> first | assumption | decide) | (apply bd_subL <;> first | assumption | decide) | (simp only [ob, ln, bdv, sv] at *; first | omega | assumption | (simp_all; done) | grind))), hK _ ?_⟩
  clear hK K
  refine AWP.block ?_
  generalize hz1 : loopR (spec_l30Find_b1 a0 a1) (a0.length - 0) 0 () = z1 at hR
  refine AWP.range (spec_l30Find_b1 a0 a1) (fun i1 s1 => ⟨[(0, encL 3 eVisit a0), (1, .int .i64 a1), (5, .int .i64 (i1 : Int))], []⟩) (fun i1 s1 => True) (a0.length) 0 () [] hz1 (by (first | trivial | omega | (simp only [ob, ln, bdv, sv] at *; omega) | ((try clear hK K); (repeat' first | apply And.intro | intro _) <;> first | trivial | omega | assumption | solve_by_elim | (apply bd_getD <;> first | assumption | decide) | (apply bd_subL <;> first | assumption | decide) | (simp only [ob, ln, bdv, sv] at *; first | omega | assumption | (simp_all; done) | grind)))) (by (first | trivial | (and_intros <;> simp only [ln] <;> omega) | (and_intros <;> simp only [ob, ln] at * <;> omega) | (and_intros <;> first | trivial | omega | assumption | (apply bd_set <;> first | assumption | (apply bd_getD <;> first | assumption | decide)) | (apply bd_app <;> first | assumption | (apply bd_getD <;> first | assumption | decide)) | (simp only [ob, ln, bdv, sv] at *; omega) | (simp; done)))) (by (simp only [si, ea, gv, sv, hk, reduceCtorEq, reduceIte, Nat.reduceBEq, Nat.reduceAdd, Nat.reduceEqDiff, Nat.reduceLT, Nat.reduceLeDiff, Nat.reduceMul, Nat.reduceSub, BEq.rfl, beq_self_eq_true, Int.reduceToNat]; first | done | trivial | (and_intros <;> first | rfl | trivial | omega | (rw [IntKind.wrap_i64]; omega) | (simp only [ln]; done) | (simp only [ob, ln, bdv, sv] at *; first | omega | grind) | (left; intro j hj; simp only [pw, Bool.cond_eq_ite, Bool.and_eq_true, decide_eq_true_eq]; (repeat' split) <;> simp [putL, NoBorL, NoBor]) | (intro j hj; simp only [pw, Bool.cond_eq_ite, Bool.and_eq_true, decide_eq_true_eq]; (try rw [subL_getD _ _ _ _ (by first | assumption | omega)]); (try rw [clearL_getD _ _ _ _ (by first | omega | (simp only [ob, ln, bdv] at *; omega))]); (repeat' split) <;> first | rfl | omega | exact simOL_refl _ | (simp_all; done) | (simp_all; rfl) | (simp_all; omega) | (simp_all; exact simOL_refl _) | (simp [putL, NoBorL, NoBor]; done))))) ?_
  clear hz1
  intro i1 s1 hi1 hW1 hz1
  refine AWP.seq ?_
  refine AWP.seq ?_
  refine AWP.regS G_ok spec_l30Find_DD hc (by kernel_rfl) (fun K hK => ?_); simp only [ea, gv, sv, reduceCtorEq, reduceIte, Nat.reduceBEq, Nat.reduceAdd, Nat.reduceEqDiff, Nat.reduceLT, Nat.reduceLeDiff, Nat.reduceMul, Nat.reduceSub, BEq.rfl, beq_self_eq_true, Int.reduceToNat]
  first | refine hK _ ?_ | refine ⟨by (first | trivial | omega | (simp only [ob, ln, bdv, sv] at *; omega) | ((try clear hK K); (repeat' first | apply And.intro | intro _) <;> first | trivial | omega | assumption | solve_by_elim | (apply bd_getD <;> first | assumption | decide) | (apply bd_subL <;> first | assumption | decide) | (simp only [ob, ln, bdv, sv] at *; first | omega | assumption | (simp_all; done) | grind))), hK _ ?_⟩
  clear hK K
  refine AWP.cond rfl (fun hb => ?_) (fun hb => ?_)
  · have hlt1 : i1 < a0.length := by (first | trivial | omega | (simp only [ob, ln, bdv, sv] at *; omega) | ((try clear hK K); (repeat' first | apply And.intro | intro _) <;> first | trivial | omega | assumption | solve_by_elim | (apply bd_getD <;> first | assumption | decide) | (apply bd_subL <;> first | assumption | decide) | (simp only [ob, ln, bdv, sv] at *; first | omega | assumption | (simp_all; done) | grind)))
    rw [loopR_lt hlt1] at hz1; simp only [spec_l30Find_b1] at hz1
    refine AWP.skip ?_
    refine AWP.seq ?_
    refine AWP.block ?_
    refine AWP.seq ?_
    refine AWP.regS G_ok spec_l30Find_DD hc (by kernel_rfl) (fun K hK => ?_); simp only [ea, gv, sv, reduceCtorEq, reduceIte, Nat.reduceBEq, Nat.reduceAdd, Nat.reduceEqDiff, Nat.reduceLT, Nat.reduceLeDiff, Nat.reduceMul, Nat.reduceSub, BEq.rfl, beq_self_eq_true, Int.reduceToNat]
    first | refine hK _ ?_ | refine ⟨by (first | trivial | omega | (simp only [ob, ln, bdv, sv] at *; omega) | ((try clear hK K); (repeat' first | apply And.intro | intro _) <;> first | trivial | omega | assumption | solve_by_elim | (apply bd_getD <;> first | assumption | decide) | (apply bd_subL <;> first | assumption | decide) | (simp only [ob, ln, bdv, sv] at *; first | omega | assumption | (simp_all; done) | grind))), hK _ ?_⟩
    clear hK K
    refine AWP.cond rfl (fun hb => ?_) (fun hb => ?_)
    · first | simp only [hb, cond_true] at hz1 | (simp only [*] at hb; simp only [hb, cond_true] at hz1)
      refine AWP.seq ?_
      refine AWP.regS G_ok spec_l30Find_DD hc (by kernel_rfl) (fun K hK => ?_); simp only [ea, gv, sv, reduceCtorEq, reduceIte, Nat.reduceBEq, Nat.reduceAdd, Nat.reduceEqDiff, Nat.reduceLT, Nat.reduceLeDiff, Nat.reduceMul, Nat.reduceSub, BEq.rfl, beq_self_eq_true, Int.reduceToNat]
      first | refine hK _ ?_ | refine ⟨by (first | trivial | omega | (simp only [ob, ln, bdv, sv] at *; omega) | ((try clear hK K); (repeat' first | apply And.intro | intro _) <;> first | trivial | omega | assumption | solve_by_elim | (apply bd_getD <;> first | assumption | decide) | (apply bd_subL <;> first | assumption | decide) | (simp only [ob, ln, bdv, sv] at *; first | omega | assumption | (simp_all; done) | grind))), hK _ ?_⟩
      clear hK K
      refine AWP.ret ?_
      subst hz1
      dsimp only at hR
      subst hR
      (simp only [en, si, ea, gv, sv, hk, reduceCtorEq, reduceIte, Nat.reduceBEq, Nat.reduceAdd, Nat.reduceEqDiff, Nat.reduceLT, Nat.reduceLeDiff, Nat.reduceMul, Nat.reduceSub, BEq.rfl, beq_self_eq_true, Int.reduceToNat]; first | done | trivial | (and_intros <;> first | rfl | trivial | omega | (rw [IntKind.wrap_i64]; omega) | (simp only [ln]; done) | (simp only [ob, ln, bdv, sv] at *; first | omega | grind) | (left; intro j hj; simp only [pw, Bool.cond_eq_ite, Bool.and_eq_true, decide_eq_true_eq]; (repeat' split) <;> simp [putL, NoBorL, NoBor]) | (intro j hj; simp only [pw, Bool.cond_eq_ite, Bool.and_eq_true, decide_eq_true_eq]; (try rw [subL_getD _ _ _ _ (by first | assumption | omega)]); (try rw [clearL_getD _ _ _ _ (by first | omega | (simp only [ob, ln, bdv] at *; omega))]); (repeat' split) <;> first | rfl | omega | exact simOL_refl _ | (simp_all; done) | (simp_all; rfl) | (simp_all; omega) | (simp_all; exact simOL_refl _) | (simp [putL, NoBorL, NoBor]; done))))
    · first | simp only [hb, cond_false] at hz1 | (simp only [*] at hb; simp only [hb, cond_false] at hz1)
      refine AWP.skip ?_
      refine AWP.regS G_ok spec_l30Find_DD hc (by kernel_rfl) (fun K hK => ?_); simp only [ea, gv, sv, reduceCtorEq, reduceIte, Nat.reduceBEq, Nat.reduceAdd, Nat.reduceEqDiff, Nat.reduceLT, Nat.reduceLeDiff, Nat.reduceMul, Nat.reduceSub, BEq.rfl, beq_self_eq_true, Int.reduceToNat]
      first | refine hK _ ?_ | refine ⟨by (first | trivial | omega | (simp only [ob, ln, bdv, sv] at *; omega) | ((try clear hK K); (repeat' first | apply And.intro | intro _) <;> first | trivial | omega | assumption | solve_by_elim | (apply bd_getD <;> first | assumption | decide) | (apply bd_subL <;> first | assumption | decide) | (simp only [ob, ln, bdv, sv] at *; first | omega | assumption | (simp_all; done) | grind))), hK _ ?_⟩
      clear hK K
      exact ⟨_, [], hlt1, by (first | trivial | (and_intros <;> simp only [ln] <;> omega) | (and_intros <;> simp only [ob, ln] at * <;> omega) | (and_intros <;> first | trivial | omega | assumption | (apply bd_set <;> first | assumption | (apply bd_getD <;> first | assumption | decide)) | (apply bd_app <;> first | assumption | (apply bd_getD <;> first | assumption | decide)) | (simp only [ob, ln, bdv, sv] at *; omega) | (simp; done))), hz1, by (simp only [si, ea, gv, sv, hk, reduceCtorEq, reduceIte, Nat.reduceBEq, Nat.reduceAdd, Nat.reduceEqDiff, Nat.reduceLT, Nat.reduceLeDiff, Nat.reduceMul, Nat.reduceSub, BEq.rfl, beq_self_eq_true, Int.reduceToNat]; first | done | trivial | (and_intros <;> first | rfl | trivial | omega | (rw [IntKind.wrap_i64]; omega) | (simp only [ln]; done) | (simp only [ob, ln, bdv, sv] at *; first | omega | grind) | (left; intro j hj; simp only [pw, Bool.cond_eq_ite, Bool.and_eq_true, decide_eq_true_eq]; (repeat' split) <;> simp [putL, NoBorL, NoBor]) | (intro j hj; simp only [pw, Bool.cond_eq_ite, Bool.and_eq_true, decide_eq_true_eq]; (try rw [subL_getD _ _ _ _ (by first | assumption | omega)]); (try rw [clearL_getD _ _ _ _ (by first | omega | (simp only [ob, ln, bdv] at *; omega))]); (repeat' split) <;> first | rfl | omega | exact simOL_refl _ | (simp_all; done) | (simp_all; rfl) | (simp_all; omega) | (simp_all; exact simOL_refl _) | (simp [putL, NoBorL, NoBor]; done))))⟩
  · obtain rfl : i1 = a0.length := by (first | trivial | omega | (simp only [ob, ln, bdv, sv] at *; omega) | ((try clear hK K); (repeat' first | apply And.intro | intro _) <;> first | trivial | omega | assumption | solve_by_elim | (apply bd_getD <;> first | assumption | decide) | (apply bd_subL <;> first | assumption | decide) | (simp only [ob, ln, bdv, sv] at *; first | omega | assumption | (simp_all; done) | grind)))
    rw [loopR_ge (Nat.le_refl _)] at hz1; subst hz1; dsimp only at hR
    refine AWP.exit ?_; refine exitTo_here ?_
    refine AWP.seq ?_
    refine AWP.regS G_ok spec_l30Find_DD hc (by kernel_rfl) (fun K hK => ?_); simp only [ea, gv, sv, reduceCtorEq, reduceIte, Nat.reduceBEq, Nat.reduceAdd, Nat.reduceEqDiff, Nat.reduceLT, Nat.reduceLeDiff, Nat.reduceMul, Nat.reduceSub, BEq.rfl, beq_self_eq_true, Int.reduceToNat]
    first | refine hK _ ?_ | refine ⟨by (first | trivial | omega | (simp only [ob, ln, bdv, sv] at *; omega) | ((try clear hK K); (repeat' first | apply And.intro | intro _) <;> first | trivial | omega | assumption | solve_by_elim | (apply bd_getD <;> first | assumption | decide) | (apply bd_subL <;> first | assumption | decide) | (simp only [ob, ln, bdv, sv] at *; first | omega | assumption | (simp_all; done) | grind))), hK _ ?_⟩
    clear hK K
    refine AWP.ret ?_
    subst hR
    (simp only [en, si, ea, gv, sv, hk, reduceCtorEq, reduceIte, Nat.reduceBEq, Nat.reduceAdd, Nat.reduceEqDiff, Nat.reduceLT, Nat.reduceLeDiff, Nat.reduceMul, Nat.reduceSub, BEq.rfl, beq_self_eq_true, Int.reduceToNat]; first | done | trivial | (and_intros <;> first | rfl | trivial | omega | (rw [IntKind.wrap_i64]; omega) | (simp only [ln]; done) | (simp only [ob, ln, bdv, sv] at *; first | omega | grind) | (left; intro j hj; simp only [pw, Bool.cond_eq_ite, Bool.and_eq_true, decide_eq_true_eq]; (repeat' split) <;> simp [putL, NoBorL, NoBor]) | (intro j hj; simp only [pw, Bool.cond_eq_ite, Bool.and_eq_true, decide_eq_true_eq]; (try rw [subL_getD _ _ _ _ (by first | assumption | omega)]); (try rw [clearL_getD _ _ _ _ (by first | omega | (simp only [ob, ln, bdv] at *; omega))]); (repeat' split) <;> first | rfl | omega | exact simOL_refl _ | (simp_all; done) | (simp_all; rfl) | (simp_all; omega) | (simp_all; exact simOL_refl _) | (simp [putL, NoBorL, NoBor]; done))))

def D_spec_l30Find : DF
  | [x0, x1] => some (.int .i64 (spec_l30Find (rdL dVisit x0) (rdI x1)), false, [wL 3 eVisit dVisit x0, wI .i64 x1, (rdL dVisit x0).length < 1099511627776])
  | _ => none
theorem D_spec_l30Find_ok : OkD Try.prog 62 D_spec_l30Find := by
  intro xs r z ob h ho
  unfold D_spec_l30Find at h
  split at h
  · simp only [Option.some.injEq, Prod.mk.injEq] at h
    obtain ⟨rfl, rfl, rfl⟩ := h
    obtain ⟨h0, h1, hb0, _⟩ := ho
    exact Den.sim (spec_l30Find_den _ _ hb0) (simOL_cons (wL_sim h0).1 <| simOL_cons (wI_sim h1).1 <| trivial) (noIdL_cons (wL_sim h0).2 <| noIdL_cons (wI_sim h1).2 <| rfl) rfl
  · cases h
end Go.Ab

namespace Go.Ab
open Go Go.Proofs
theorem spec_l30Find_first (a0 : List Visit) (a1 : Int) : (∃ j, j < a0.length ∧ ((a0.getD j default).Aid == a1) = true ∧ (∀ q, q < j → ((a0.getD q default).Aid == a1) = false) ∧ spec_l30Find a0 a1 = (j : Int)) ∨ ((∀ q, q < a0.length → ((a0.getD q default).Aid == a1) = false) ∧ spec_l30Find a0 a1 = -1) := by
  unfold spec_l30Find
  rcases loopR_first (b := spec_l30Find_b1 a0 a1) (fun j => (a0.getD j default).Aid == a1) (fun j => (j : Int)) (k := a0.length - 0) (i := 0) (s := ()) (fun j u _ _ => rfl) with ⟨j, _, h2, h3, h4, h5⟩ | ⟨h1, h2⟩
  · left
    rw [h5]
    exact ⟨j, by omega, h3, fun q hq => h4 q (Nat.zero_le _) hq, rfl⟩
  · right
    rw [h2]
    exact ⟨fun q hq => h1 q (Nat.zero_le _) (by omega), rfl⟩
theorem spec_l30Find_lt (a0 : List Visit) (a1 : Int) : -1 ≤ spec_l30Find a0 a1 ∧ spec_l30Find a0 a1 < a0.length := by
  rcases spec_l30Find_first a0 a1 with ⟨j, h1, _, _, h2⟩ | ⟨_, h2⟩ <;> omega
end Go.Ab

namespace Go.Ab
open Go Go.Proofs
theorem impl_clone_Visit_DD : DOk Try.prog (DD []) := DD_nil _
def impl_clone_Visit (a0 : (List Visit)) : (List Visit) :=
  (List.replicate 0 (default : Visit)) ++ a0

theorem impl_clone_Visit_den (a0 : (List Visit)) (hb0 : a0.length < 1099511627776) : Den Try.prog 65 [encL 3 eVisit a0] (ownL 83 3 eVisit (impl_clone_Visit a0)) := by
  generalize hR : impl_clone_Visit a0 = r
  unfold impl_clone_Visit at hR
  refine den_intro G_ok Try.func65 (by kernel_rfl) rfl Try.ntmps65 (by rw [Try.results65]) (by simp) rfl ?_
  intro c hc hk
  simp only [pars, Nat.zero_add]
  refine AWP.seq ?_
  refine AWP.regS G_ok impl_clone_Visit_DD hc (by kernel_rfl) (fun K hK => ?_); simp only [ea, gv, sv, reduceCtorEq, reduceIte, Nat.reduceBEq, Nat.reduceAdd, Nat.reduceEqDiff, Nat.reduceLT, Nat.reduceLeDiff, Nat.reduceMul, Nat.reduceSub, BEq.rfl, beq_self_eq_true, Int.reduceToNat]
  first | refine hK _ ?_ | refine ⟨by (first | trivial | omega | (simp only [ob, ln, bdv, sv] at *; omega) | ((try clear hK K); (repeat' first | apply And.intro | intro _) <;> first | trivial | omega | assumption | solve_by_elim | (apply bd_getD <;> first | assumption | decide) | (apply bd_subL <;> first | assumption | decide) | (simp only [ob, ln, bdv, sv] at *; first | omega | assumption | (simp_all; done) | grind))), hK _ ?_⟩
  clear hK K
  refine AWP.seq ?_
  refine AWP.regS G_ok impl_clone_Visit_DD hc (by kernel_rfl) (fun K hK => ?_); simp only [ea, gv, sv, reduceCtorEq, reduceIte, Nat.reduceBEq, Nat.reduceAdd, Nat.reduceEqDiff, Nat.reduceLT, Nat.reduceLeDiff, Nat.reduceMul, Nat.reduceSub, BEq.rfl, beq_self_eq_true, Int.reduceToNat]
  first | refine hK _ ?_ | refine ⟨by (first | trivial | omega | (simp only [ob, ln, bdv, sv] at *; omega) | ((try clear hK K); (repeat' first | apply And.intro | intro _) <;> first | trivial | omega | assumption | solve_by_elim | (apply bd_getD <;> first | assumption | decide) | (apply bd_subL <;> first | assumption | decide) | (simp only [ob, ln, bdv, sv] at *; first | omega | assumption | (simp_all; done) | grind))), hK _ ?_⟩
  clear hK K
  refine AWP.ret ?_
  subst hR
  (simp only [en, si, ea, gv, sv, hk, reduceCtorEq, reduceIte, Nat.reduceBEq, Nat.reduceAdd, Nat.reduceEqDiff, Nat.reduceLT, Nat.reduceLeDiff, Nat.reduceMul, Nat.reduceSub, BEq.rfl, beq_self_eq_true, Int.reduceToNat]; first | done | trivial | (and_intros <;> first | rfl | trivial | omega | (rw [IntKind.wrap_i64]; omega) | (simp only [ln]; done) | (simp only [ob, ln, bdv, sv] at *; first | omega | grind) | (left; intro j hj; simp only [pw, Bool.cond_eq_ite, Bool.and_eq_true, decide_eq_true_eq]; (repeat' split) <;> simp [putL, NoBorL, NoBor]) | (intro j hj; simp only [pw, Bool.cond_eq_ite, Bool.and_eq_true, decide_eq_true_eq]; (try rw [subL_getD _ _ _ _ (by first | assumption | omega)]); (try rw [clearL_getD _ _ _ _ (by first | omega | (simp only [ob, ln, bdv] at *; omega))]); (repeat' split) <;> first | rfl | omega | exact simOL_refl _ | (simp_all; done) | (simp_all; rfl) | (simp_all; omega) | (simp_all; exact simOL_refl _) | (simp [putL, NoBorL, NoBor]; done))))

def D_impl_clone_Visit : DF
  | [x0] => some (ownL 83 3 eVisit (impl_clone_Visit (rdL dVisit x0)), false, [wL 3 eVisit dVisit x0, (rdL dVisit x0).length < 1099511627776])
  | _ => none
def Dz_impl_clone_Visit : DF
  | [x0] => some (ownL 83 3 eVisit (impl_clone_Visit (rdL dVisit x0)), true, [wL 3 eVisit dVisit x0, (rdL dVisit x0).length < 1099511627776])
  | _ => none
theorem D_impl_clone_Visit_ok : OkD Try.prog 65 D_impl_clone_Visit := by
  intro xs r z ob h ho
  unfold D_impl_clone_Visit at h
  split at h
  · simp only [Option.some.injEq, Prod.mk.injEq] at h
    obtain ⟨rfl, rfl, rfl⟩ := h
    obtain ⟨h0, hb0, _⟩ := ho
    exact Den.sim (impl_clone_Visit_den _ hb0) (simOL_cons (wL_sim h0).1 <| trivial) (noIdL_cons (wL_sim h0).2 <| rfl) rfl
  · cases h

theorem Dz_impl_clone_Visit_ok : OkD Try.prog 65 Dz_impl_clone_Visit := by
  intro xs r z ob h ho
  unfold Dz_impl_clone_Visit at h
  split at h
  · simp only [Option.some.injEq, Prod.mk.injEq] at h
    obtain ⟨rfl, rfl, rfl⟩ := h
    obtain ⟨h0, hb0, _⟩ := ho
    exact Den.sim (impl_clone_Visit_den _ hb0) (simOL_cons (wL_sim h0).1 <| trivial) (noIdL_cons (wL_sim h0).2 <| rfl) rfl
  · cases h
end Go.Ab

namespace Go.Ab
open Go Go.Proofs
theorem impl_clone_Visit_id (a : List Visit) : impl_clone_Visit a = a := by simp [impl_clone_Visit]
end Go.Ab

namespace Go.Ab
open Go Go.Proofs
theorem laws_toVisit_DD : DOk Try.prog (DD []) := DD_nil _
def laws_toVisit (a0 : Visit) : Visit :=
  { Aid := a0.Aid, Every := a0.Every, Last := a0.Last : Visit }

theorem laws_toVisit_den (a0 : Visit)  : Den Try.prog 63 [.agg (eVisit a0)] (.agg (eVisit (laws_toVisit a0))) := by
  generalize hR : laws_toVisit a0 = r
  unfold laws_toVisit at hR
  refine den_intro G_ok Try.func63 (by kernel_rfl) rfl Try.ntmps63 (by rw [Try.results63]) (by simp) rfl ?_
  intro c hc hk
  simp only [pars, Nat.zero_add]
  refine AWP.seq ?_
  refine AWP.regS G_ok laws_toVisit_DD hc (by kernel_rfl) (fun K hK => ?_); simp only [ea, gv, sv, reduceCtorEq, reduceIte, Nat.reduceBEq, Nat.reduceAdd, Nat.reduceEqDiff, Nat.reduceLT, Nat.reduceLeDiff, Nat.reduceMul, Nat.reduceSub, BEq.rfl, beq_self_eq_true, Int.reduceToNat]
  first | refine hK _ ?_ | refine ⟨by (first | trivial | omega | (simp only [ob, ln, bdv, sv] at *; omega) | ((try clear hK K); (repeat' first | apply And.intro | intro _) <;> first | trivial | omega | assumption | solve_by_elim | (apply bd_getD <;> first | assumption | decide) | (apply bd_subL <;> first | assumption | decide) | (simp only [ob, ln, bdv, sv] at *; first | omega | assumption | (simp_all; done) | grind))), hK _ ?_⟩
  clear hK K
  refine AWP.seq ?_
  refine AWP.regS G_ok laws_toVisit_DD hc (by kernel_rfl) (fun K hK => ?_); simp only [ea, gv, sv, reduceCtorEq, reduceIte, Nat.reduceBEq, Nat.reduceAdd, Nat.reduceEqDiff, Nat.reduceLT, Nat.reduceLeDiff, Nat.reduceMul, Nat.reduceSub, BEq.rfl, beq_self_eq_true, Int.reduceToNat]
  first | refine hK _ ?_ | refine ⟨by (first | trivial | omega | (simp only [ob, ln, bdv, sv] at *; omega) | ((try clear hK K); (repeat' first | apply And.intro | intro _) <;> first | trivial | omega | assumption | solve_by_elim | (apply bd_getD <;> first | assumption | decide) | (apply bd_subL <;> first | assumption | decide) | (simp only [ob, ln, bdv, sv] at *; first | omega | assumption | (simp_all; done) | grind))), hK _ ?_⟩
  clear hK K
  refine AWP.seq ?_
  refine AWP.regS G_ok laws_toVisit_DD hc (by kernel_rfl) (fun K hK => ?_); simp only [ea, gv, sv, reduceCtorEq, reduceIte, Nat.reduceBEq, Nat.reduceAdd, Nat.reduceEqDiff, Nat.reduceLT, Nat.reduceLeDiff, Nat.reduceMul, Nat.reduceSub, BEq.rfl, beq_self_eq_true, Int.reduceToNat]
  first | refine hK _ ?_ | refine ⟨by (first | trivial | omega | (simp only [ob, ln, bdv, sv] at *; omega) | ((try clear hK K); (repeat' first | apply And.intro | intro _) <;> first | trivial | omega | assumption | solve_by_elim | (apply bd_getD <;> first | assumption | decide) | (apply bd_subL <;> first | assumption | decide) | (simp only [ob, ln, bdv, sv] at *; first | omega | assumption | (simp_all; done) | grind))), hK _ ?_⟩
  clear hK K
  refine AWP.seq ?_
  refine AWP.regS G_ok laws_toVisit_DD hc (by kernel_rfl) (fun K hK => ?_); simp only [ea, gv, sv, reduceCtorEq, reduceIte, Nat.reduceBEq, Nat.reduceAdd, Nat.reduceEqDiff, Nat.reduceLT, Nat.reduceLeDiff, Nat.reduceMul, Nat.reduceSub, BEq.rfl, beq_self_eq_true, Int.reduceToNat]
  first | refine hK _ ?_ | refine ⟨by (first | trivial | omega | (simp only [ob, ln, bdv, sv] at *; omega) | ((try clear hK K); (repeat' first | apply And.intro | intro _) <;> first | trivial | omega | assumption | solve_by_elim | (apply bd_getD <;> first | assumption | decide) | (apply bd_subL <;> first | assumption | decide) | (simp only [ob, ln, bdv, sv] at *; first | omega | assumption | (simp_all; done) | grind))), hK _ ?_⟩
  clear hK K
  refine AWP.seq ?_
  refine AWP.regS G_ok laws_toVisit_DD hc (by kernel_rfl) (fun K hK => ?_); simp only [ea, gv, sv, reduceCtorEq, reduceIte, Nat.reduceBEq, Nat.reduceAdd, Nat.reduceEqDiff, Nat.reduceLT, Nat.reduceLeDiff, Nat.reduceMul, Nat.reduceSub, BEq.rfl, beq_self_eq_true, Int.reduceToNat]
  first | refine hK _ ?_ | refine ⟨by (first | trivial | omega | (simp only [ob, ln, bdv, sv] at *; omega) | ((try clear hK K); (repeat' first | apply And.intro | intro _) <;> first | trivial | omega | assumption | solve_by_elim | (apply bd_getD <;> first | assumption | decide) | (apply bd_subL <;> first | assumption | decide) | (simp only [ob, ln, bdv, sv] at *; first | omega | assumption | (simp_all; done) | grind))), hK _ ?_⟩
  clear hK K
  refine AWP.seq ?_
  refine AWP.regS G_ok laws_toVisit_DD hc (by kernel_rfl) (fun K hK => ?_); simp only [ea, gv, sv, reduceCtorEq, reduceIte, Nat.reduceBEq, Nat.reduceAdd, Nat.reduceEqDiff, Nat.reduceLT, Nat.reduceLeDiff, Nat.reduceMul, Nat.reduceSub, BEq.rfl, beq_self_eq_true, Int.reduceToNat]
  first | refine hK _ ?_ | refine ⟨by (first | trivial | omega | (simp only [ob, ln, bdv, sv] at *; omega) | ((try clear hK K); (repeat' first | apply And.intro | intro _) <;> first | trivial | omega | assumption | solve_by_elim | (apply bd_getD <;> first | assumption | decide) | (apply bd_subL <;> first | assumption | decide) | (simp only [ob, ln, bdv, sv] at *; first | omega | assumption | (simp_all; done) | grind))), hK _ ?_⟩
  clear hK K
  refine AWP.ret ?_
  subst hR
  (simp only [en, si, ea, gv, sv, hk, reduceCtorEq, reduceIte, Nat.reduceBEq, Nat.reduceAdd, Nat.reduceEqDiff, Nat.reduceLT, Nat.reduceLeDiff, Nat.reduceMul, Nat.reduceSub, BEq.rfl, beq_self_eq_true, Int.reduceToNat]; first | done | trivial | (and_intros <;> first | rfl | trivial | omega | (rw [IntKind.wrap_i64]; omega) | (simp only [ln]; done) | (simp only [ob, ln, bdv, sv] at *; first | omega | grind) | (left; intro j hj; simp only [pw, Bool.cond_eq_ite, Bool.and_eq_true, decide_eq_true_eq]; (repeat' split) <;> simp [putL, NoBorL, NoBor]) | (intro j hj; simp only [pw, Bool.cond_eq_ite, Bool.and_eq_true, decide_eq_true_eq]; (try rw [subL_getD _ _ _ _ (by first | assumption | omega)]); (try rw [clearL_getD _ _ _ _ (by first | omega | (simp only [ob, ln, bdv] at *; omega))]); (repeat' split) <;> first | rfl | omega | exact simOL_refl _ | (simp_all; done) | (simp_all; rfl) | (simp_all; omega) | (simp_all; exact simOL_refl _) | (simp [putL, NoBorL, NoBor]; done))))

def D_laws_toVisit : DF
  | [x0] => some (.agg (eVisit (laws_toVisit (rdG dVisit x0))), false, [wG eVisit dVisit x0])
  | _ => none
theorem D_laws_toVisit_ok : OkD Try.prog 63 D_laws_toVisit := by
  intro xs r z ob h ho
  unfold D_laws_toVisit at h
  split at h
  · simp only [Option.some.injEq, Prod.mk.injEq] at h
    obtain ⟨rfl, rfl, rfl⟩ := h
    obtain ⟨h0, _⟩ := ho
    exact Den.sim (laws_toVisit_den _ ) (simOL_cons (wG_sim h0).1 <| trivial) (noIdL_cons (wG_sim h0).2 <| rfl) rfl
  · cases h
end Go.Ab

namespace Go.Ab
open Go Go.Proofs
theorem laws_toVisitS_DD : DOk Try.prog (DD [(63, dP D_laws_toVisit)]) := DD_cons D_laws_toVisit_ok.e <| DD_nil _
def laws_toVisitS_b1 (a0 : (List Visit)) (i1 : Nat) (s1 : List Visit) : Except ((List Visit)) (List Visit) :=
  .ok (s1.set i1 (laws_toVisit (a0.getD i1 default)))

def laws_toVisitS (a0 : (List Visit)) : (List Visit) :=
  (match loopR (laws_toVisitS_b1 a0) (a0.length - 0) 0 (List.replicate a0.length (default : Visit)) with | .error e => e | .ok s1 => s1)

theorem laws_toVisitS_den (a0 : (List Visit)) (hb0 : a0.length < 1099511627776) : Den Try.prog 21 [encL 3 eVisit a0] (ownL 83 3 eVisit (laws_toVisitS a0)) := by
  generalize hR : laws_toVisitS a0 = r
  unfold laws_toVisitS at hR
  refine den_intro G_ok Try.func21 (by kernel_rfl) rfl Try.ntmps21 (by rw [Try.results21]) (by simp) rfl ?_
  intro c hc hk
  simp only [pars, Nat.zero_add]
  refine AWP.seq ?_
  refine AWP.regS G_ok laws_toVisitS_DD hc (by kernel_rfl) (fun K hK => ?_); simp only [ea, gv, sv, D_laws_toVisit, reduceCtorEq, reduceIte, Nat.reduceBEq, Nat.reduceAdd, Nat.reduceEqDiff, Nat.reduceLT, Nat.reduceLeDiff, Nat.reduceMul, Nat.reduceSub, BEq.rfl, beq_self_eq_true, Int.reduceToNat]
  first | refine hK _ ?_ | refine ⟨by (first | trivial | omega | (simp only [ob, ln, bdv, sv] at *; omega) | ((try clear hK K); (repeat' first | apply And.intro | intro _) <;> first | trivial | omega | assumption | solve_by_elim | (apply bd_getD <;> first | assumption | decide) | (apply bd_subL <;> first | assumption | decide) | (simp only [ob, ln, bdv, sv] at *; first | omega | assumption | (simp_all; done) | grind))), hK _ ?_⟩
  clear hK K
  refine AWP.seq ?_
  refine AWP.regS G_ok laws_toVisitS_DD hc (by kernel_rfl) (fun K hK => ?_); simp only [ea, gv, sv, D_laws_toVisit, reduceCtorEq, reduceIte, Nat.reduceBEq, Nat.reduceAdd, Nat.reduceEqDiff, Nat.reduceLT, Nat.reduceLeDiff, Nat.reduceMul, Nat.reduceSub, BEq.rfl, beq_self_eq_true, Int.reduceToNat]
  first | refine hK _ ?_ | refine ⟨by (first | trivial | omega | (simp only [ob, ln, bdv, sv] at *; omega) | ((try clear hK K); (repeat' first | apply And.intro | intro _) <;> first | trivial | omega | assumption | solve_by_elim | (apply bd_getD <;> first | assumption | decide) | (apply bd_subL <;> first | assumption | decide) | (simp only [ob, ln, bdv, sv] at *; first | omega | assumption | (simp_all; done) | grind))), hK _ ?_⟩
  clear hK K
  refine AWP.seq ?_
  refine AWP.seq ?_
  refine AWP.regS G_ok laws_toVisitS_DD hc (by kernel_rfl) (fun K hK => ?_); simp only [ea, gv, sv, D_laws_toVisit, reduceCtorEq, reduceIte, Nat.reduceBEq, Nat.reduceAdd, Nat.reduceEqDiff, Nat.reduceLT, Nat.reduceLeDiff, Nat.reduceMul, Nat.reduceSub, BEq.rfl, beq_self_eq_true, Int.reduceToNat]
  first | refine hK _ ?_ | refine ⟨by (first | trivial | omega | (simp only [ob, ln, bdv, sv] at *; omega) | ((try clear hK K); (repeat' first | apply And.intro | intro _) <;> first | trivial | omega | assumption | solve_by_elim | (apply bd_getD <;> first | assumption | decide) | (apply bd_subL <;> first | assumption | decide) | (simp only [ob, ln, bdv, sv] at *; first | omega | assumption | (simp_all; done) | grind))), hK _ ?_⟩
  clear hK K
  refine AWP.block ?_
  generalize hz1 : loopR (laws_toVisitS_b1 a0) (a0.length - 0) 0 (List.replicate a0.length (default : Visit)) = z1 at hR
  refine AWP.range (laws_toVisitS_b1 a0) (fun i1 s1 => ⟨[(0, encL 3 eVisit a0), (3, .ref 0 3 0 s1.length), (4, .int .i64 (i1 : Int))], [.arr 83 3 s1.length (fun j => eVisit (s1.getD j default))]⟩) (fun i1 s1 => s1.length = (List.replicate a0.length (default : Visit)).length) (a0.length) 0 (List.replicate a0.length (default : Visit)) [0] hz1 (by (first | trivial | omega | (simp only [ob, ln, bdv, sv] at *; omega) | ((try clear hK K); (repeat' first | apply And.intro | intro _) <;> first | trivial | omega | assumption | solve_by_elim | (apply bd_getD <;> first | assumption | decide) | (apply bd_subL <;> first | assumption | decide) | (simp only [ob, ln, bdv, sv] at *; first | omega | assumption | (simp_all; done) | grind)))) (by (first | trivial | (and_intros <;> simp only [ln] <;> omega) | (and_intros <;> simp only [ob, ln] at * <;> omega) | (and_intros <;> first | trivial | omega | assumption | (apply bd_set <;> first | assumption | (apply bd_getD <;> first | assumption | decide)) | (apply bd_app <;> first | assumption | (apply bd_getD <;> first | assumption | decide)) | (simp only [ob, ln, bdv, sv] at *; omega) | (simp; done)))) (by (simp only [si, ea, gv, sv, hk, reduceCtorEq, reduceIte, Nat.reduceBEq, Nat.reduceAdd, Nat.reduceEqDiff, Nat.reduceLT, Nat.reduceLeDiff, Nat.reduceMul, Nat.reduceSub, BEq.rfl, beq_self_eq_true, Int.reduceToNat]; first | done | trivial | (and_intros <;> first | rfl | trivial | omega | (rw [IntKind.wrap_i64]; omega) | (simp only [ln]; done) | (simp only [ob, ln, bdv, sv] at *; first | omega | grind) | (left; intro j hj; simp only [pw, Bool.cond_eq_ite, Bool.and_eq_true, decide_eq_true_eq]; (repeat' split) <;> simp [putL, NoBorL, NoBor]) | (intro j hj; simp only [pw, Bool.cond_eq_ite, Bool.and_eq_true, decide_eq_true_eq]; (try rw [subL_getD _ _ _ _ (by first | assumption | omega)]); (try rw [clearL_getD _ _ _ _ (by first | omega | (simp only [ob, ln, bdv] at *; omega))]); (repeat' split) <;> first | rfl | omega | exact simOL_refl _ | (simp_all; done) | (simp_all; rfl) | (simp_all; omega) | (simp_all; exact simOL_refl _) | (simp [putL, NoBorL, NoBor]; done))))) ?_
  clear hz1
  intro i1 s1 hi1 hW1 hz1
  refine AWP.seq ?_
  refine AWP.seq ?_
  refine AWP.regS G_ok laws_toVisitS_DD hc (by kernel_rfl) (fun K hK => ?_); simp only [ea, gv, sv, D_laws_toVisit, reduceCtorEq, reduceIte, Nat.reduceBEq, Nat.reduceAdd, Nat.reduceEqDiff, Nat.reduceLT, Nat.reduceLeDiff, Nat.reduceMul, Nat.reduceSub, BEq.rfl, beq_self_eq_true, Int.reduceToNat]
  first | refine hK _ ?_ | refine ⟨by (first | trivial | omega | (simp only [ob, ln, bdv, sv] at *; omega) | ((try clear hK K); (repeat' first | apply And.intro | intro _) <;> first | trivial | omega | assumption | solve_by_elim | (apply bd_getD <;> first | assumption | decide) | (apply bd_subL <;> first | assumption | decide) | (simp only [ob, ln, bdv, sv] at *; first | omega | assumption | (simp_all; done) | grind))), hK _ ?_⟩
  clear hK K
  refine AWP.cond rfl (fun hb => ?_) (fun hb => ?_)
  · have hlt1 : i1 < a0.length := by (first | trivial | omega | (simp only [ob, ln, bdv, sv] at *; omega) | ((try clear hK K); (repeat' first | apply And.intro | intro _) <;> first | trivial | omega | assumption | solve_by_elim | (apply bd_getD <;> first | assumption | decide) | (apply bd_subL <;> first | assumption | decide) | (simp only [ob, ln, bdv, sv] at *; first | omega | assumption | (simp_all; done) | grind)))
    rw [loopR_lt hlt1] at hz1; simp only [laws_toVisitS_b1] at hz1
    refine AWP.skip ?_
    refine AWP.seq ?_
    refine AWP.block ?_
    refine AWP.regS G_ok laws_toVisitS_DD hc (by kernel_rfl) (fun K hK => ?_); simp only [ea, gv, sv, D_laws_toVisit, reduceCtorEq, reduceIte, Nat.reduceBEq, Nat.reduceAdd, Nat.reduceEqDiff, Nat.reduceLT, Nat.reduceLeDiff, Nat.reduceMul, Nat.reduceSub, BEq.rfl, beq_self_eq_true, Int.reduceToNat]
    first | refine hK _ ?_ | refine ⟨by (first | trivial | omega | (simp only [ob, ln, bdv, sv] at *; omega) | ((try clear hK K); (repeat' first | apply And.intro | intro _) <;> first | trivial | omega | assumption | solve_by_elim | (apply bd_getD <;> first | assumption | decide) | (apply bd_subL <;> first | assumption | decide) | (simp only [ob, ln, bdv, sv] at *; first | omega | assumption | (simp_all; done) | grind))), hK _ ?_⟩
    clear hK K
    refine AWP.regS G_ok laws_toVisitS_DD hc (by kernel_rfl) (fun K hK => ?_); simp only [ea, gv, sv, D_laws_toVisit, reduceCtorEq, reduceIte, Nat.reduceBEq, Nat.reduceAdd, Nat.reduceEqDiff, Nat.reduceLT, Nat.reduceLeDiff, Nat.reduceMul, Nat.reduceSub, BEq.rfl, beq_self_eq_true, Int.reduceToNat]
    first | refine hK _ ?_ | refine ⟨by (first | trivial | omega | (simp only [ob, ln, bdv, sv] at *; omega) | ((try clear hK K); (repeat' first | apply And.intro | intro _) <;> first | trivial | omega | assumption | solve_by_elim | (apply bd_getD <;> first | assumption | decide) | (apply bd_subL <;> first | assumption | decide) | (simp only [ob, ln, bdv, sv] at *; first | omega | assumption | (simp_all; done) | grind))), hK _ ?_⟩
    clear hK K
    exact ⟨_, [0], hlt1, by (first | trivial | (and_intros <;> simp only [ln] <;> omega) | (and_intros <;> simp only [ob, ln] at * <;> omega) | (and_intros <;> first | trivial | omega | assumption | (apply bd_set <;> first | assumption | (apply bd_getD <;> first | assumption | decide)) | (apply bd_app <;> first | assumption | (apply bd_getD <;> first | assumption | decide)) | (simp only [ob, ln, bdv, sv] at *; omega) | (simp; done))), hz1, by (simp only [si, ea, gv, sv, hk, reduceCtorEq, reduceIte, Nat.reduceBEq, Nat.reduceAdd, Nat.reduceEqDiff, Nat.reduceLT, Nat.reduceLeDiff, Nat.reduceMul, Nat.reduceSub, BEq.rfl, beq_self_eq_true, Int.reduceToNat]; first | done | trivial | (and_intros <;> first | rfl | trivial | omega | (rw [IntKind.wrap_i64]; omega) | (simp only [ln]; done) | (simp only [ob, ln, bdv, sv] at *; first | omega | grind) | (left; intro j hj; simp only [pw, Bool.cond_eq_ite, Bool.and_eq_true, decide_eq_true_eq]; (repeat' split) <;> simp [putL, NoBorL, NoBor]) | (intro j hj; simp only [pw, Bool.cond_eq_ite, Bool.and_eq_true, decide_eq_true_eq]; (try rw [subL_getD _ _ _ _ (by first | assumption | omega)]); (try rw [clearL_getD _ _ _ _ (by first | omega | (simp only [ob, ln, bdv] at *; omega))]); (repeat' split) <;> first | rfl | omega | exact simOL_refl _ | (simp_all; done) | (simp_all; rfl) | (simp_all; omega) | (simp_all; exact simOL_refl _) | (simp [putL, NoBorL, NoBor]; done))))⟩
  · obtain rfl : i1 = a0.length := by (first | trivial | omega | (simp only [ob, ln, bdv, sv] at *; omega) | ((try clear hK K); (repeat' first | apply And.intro | intro _) <;> first | trivial | omega | assumption | solve_by_elim | (apply bd_getD <;> first | assumption | decide) | (apply bd_subL <;> first | assumption | decide) | (simp only [ob, ln, bdv, sv] at *; first | omega | assumption | (simp_all; done) | grind)))
    rw [loopR_ge (Nat.le_refl _)] at hz1; subst hz1; dsimp only at hR
    refine AWP.exit ?_; refine exitTo_here ?_
    refine AWP.seq ?_
    refine AWP.regS G_ok laws_toVisitS_DD hc (by kernel_rfl) (fun K hK => ?_); simp only [ea, gv, sv, D_laws_toVisit, reduceCtorEq, reduceIte, Nat.reduceBEq, Nat.reduceAdd, Nat.reduceEqDiff, Nat.reduceLT, Nat.reduceLeDiff, Nat.reduceMul, Nat.reduceSub, BEq.rfl, beq_self_eq_true, Int.reduceToNat]
    first | refine hK _ ?_ | refine ⟨by (first | trivial | omega | (simp only [ob, ln, bdv, sv] at *; omega) | ((try clear hK K); (repeat' first | apply And.intro | intro _) <;> first | trivial | omega | assumption | solve_by_elim | (apply bd_getD <;> first | assumption | decide) | (apply bd_subL <;> first | assumption | decide) | (simp only [ob, ln, bdv, sv] at *; first | omega | assumption | (simp_all; done) | grind))), hK _ ?_⟩
    clear hK K
    refine AWP.ret ?_
    subst hR
    (simp only [en, si, ea, gv, sv, hk, reduceCtorEq, reduceIte, Nat.reduceBEq, Nat.reduceAdd, Nat.reduceEqDiff, Nat.reduceLT, Nat.reduceLeDiff, Nat.reduceMul, Nat.reduceSub, BEq.rfl, beq_self_eq_true, Int.reduceToNat]; first | done | trivial | (and_intros <;> first | rfl | trivial | omega | (rw [IntKind.wrap_i64]; omega) | (simp only [ln]; done) | (simp only [ob, ln, bdv, sv] at *; first | omega | grind) | (left; intro j hj; simp only [pw, Bool.cond_eq_ite, Bool.and_eq_true, decide_eq_true_eq]; (repeat' split) <;> simp [putL, NoBorL, NoBor]) | (intro j hj; simp only [pw, Bool.cond_eq_ite, Bool.and_eq_true, decide_eq_true_eq]; (try rw [subL_getD _ _ _ _ (by first | assumption | omega)]); (try rw [clearL_getD _ _ _ _ (by first | omega | (simp only [ob, ln, bdv] at *; omega))]); (repeat' split) <;> first | rfl | omega | exact simOL_refl _ | (simp_all; done) | (simp_all; rfl) | (simp_all; omega) | (simp_all; exact simOL_refl _) | (simp [putL, NoBorL, NoBor]; done))))

def D_laws_toVisitS : DF
  | [x0] => some (ownL 83 3 eVisit (laws_toVisitS (rdL dVisit x0)), false, [wL 3 eVisit dVisit x0, (rdL dVisit x0).length < 1099511627776])
  | _ => none
def Dz_laws_toVisitS : DF
  | [x0] => some (ownL 83 3 eVisit (laws_toVisitS (rdL dVisit x0)), true, [wL 3 eVisit dVisit x0, (rdL dVisit x0).length < 1099511627776])
  | _ => none
theorem D_laws_toVisitS_ok : OkD Try.prog 21 D_laws_toVisitS := by
  intro xs r z ob h ho
  unfold D_laws_toVisitS at h
  split at h
  · simp only [Option.some.injEq, Prod.mk.injEq] at h
    obtain ⟨rfl, rfl, rfl⟩ := h
    obtain ⟨h0, hb0, _⟩ := ho
    exact Den.sim (laws_toVisitS_den _ hb0) (simOL_cons (wL_sim h0).1 <| trivial) (noIdL_cons (wL_sim h0).2 <| rfl) rfl
  · cases h

theorem Dz_laws_toVisitS_ok : OkD Try.prog 21 Dz_laws_toVisitS := by
  intro xs r z ob h ho
  unfold Dz_laws_toVisitS at h
  split at h
  · simp only [Option.some.injEq, Prod.mk.injEq] at h
    obtain ⟨rfl, rfl, rfl⟩ := h
    obtain ⟨h0, hb0, _⟩ := ho
    exact Den.sim (laws_toVisitS_den _ hb0) (simOL_cons (wL_sim h0).1 <| trivial) (noIdL_cons (wL_sim h0).2 <| rfl) rfl
  · cases h
end Go.Ab

namespace Go.Ab
open Go Go.Proofs
theorem laws_toVisit_id (v : Visit) : laws_toVisit v = v := rfl
theorem laws_toVisitS_id (a : List Visit) : laws_toVisitS a = a := by
  unfold laws_toVisitS
  rw [loopR_fill (b := laws_toVisitS_b1 a) (fun i => laws_toVisit (a.getD i default)) (by simp) (fun i s _ => rfl)]
  simp only [laws_toVisit_id]
  exact range_getD a
end Go.Ab

namespace Go.Ab
open Go Go.Proofs
theorem laws_eqVisit_DD : DOk Try.prog (DD []) := DD_nil _
def laws_eqVisit (a0 : Visit) (a1 : Visit) : Bool :=
  (bif (a0.Aid != a1.Aid) then false else (bif (a0.Every != a1.Every) then false else (bif (a0.Last != a1.Last) then false else true)))

theorem laws_eqVisit_den (a0 : Visit) (a1 : Visit)  : Den Try.prog 66 [.agg (eVisit a0), .agg (eVisit a1)] (.bool (laws_eqVisit a0 a1)) := by
  generalize hR : laws_eqVisit a0 a1 = r
  unfold laws_eqVisit at hR
  refine den_intro G_ok Try.func66 (by kernel_rfl) rfl Try.ntmps66 (by rw [Try.results66]) (by simp) rfl ?_
  intro c hc hk
  simp only [pars, Nat.zero_add]
  refine AWP.seq ?_
  refine AWP.regS G_ok laws_eqVisit_DD hc (by kernel_rfl) (fun K hK => ?_); simp only [ea, gv, sv, reduceCtorEq, reduceIte, Nat.reduceBEq, Nat.reduceAdd, Nat.reduceEqDiff, Nat.reduceLT, Nat.reduceLeDiff, Nat.reduceMul, Nat.reduceSub, BEq.rfl, beq_self_eq_true, Int.reduceToNat]
  first | refine hK _ ?_ | refine ⟨by (first | trivial | omega | (simp only [ob, ln, bdv, sv] at *; omega) | ((try clear hK K); (repeat' first | apply And.intro | intro _) <;> first | trivial | omega | assumption | solve_by_elim | (apply bd_getD <;> first | assumption | decide) | (apply bd_subL <;> first | assumption | decide) | (simp only [ob, ln, bdv, sv] at *; first | omega | assumption | (simp_all; done) | grind))), hK _ ?_⟩
  clear hK K
  refine AWP.seq ?_
  refine AWP.seq ?_
  refine AWP.regS G_ok laws_eqVisit_DD hc (by kernel_rfl) (fun K hK => ?_); simp only [ea, gv, sv, reduceCtorEq, reduceIte, Nat.reduceBEq, Nat.reduceAdd, Nat.reduceEqDiff, Nat.reduceLT, Nat.reduceLeDiff, Nat.reduceMul, Nat.reduceSub, BEq.rfl, beq_self_eq_true, Int.reduceToNat]
  first | refine hK _ ?_ | refine ⟨by (first | trivial | omega | (simp only [ob, ln, bdv, sv] at *; omega) | ((try clear hK K); (repeat' first | apply And.intro | intro _) <;> first | trivial | omega | assumption | solve_by_elim | (apply bd_getD <;> first | assumption | decide) | (apply bd_subL <;> first | assumption | decide) | (simp only [ob, ln, bdv, sv] at *; first | omega | assumption | (simp_all; done) | grind))), hK _ ?_⟩
  clear hK K
  refine AWP.cond rfl (fun hb => ?_) (fun hb => ?_)
  · first | simp only [hb, cond_true] at hR | (simp only [*] at hb; simp only [hb, cond_true] at hR)
    refine AWP.seq ?_
    refine AWP.regS G_ok laws_eqVisit_DD hc (by kernel_rfl) (fun K hK => ?_); simp only [ea, gv, sv, reduceCtorEq, reduceIte, Nat.reduceBEq, Nat.reduceAdd, Nat.reduceEqDiff, Nat.reduceLT, Nat.reduceLeDiff, Nat.reduceMul, Nat.reduceSub, BEq.rfl, beq_self_eq_true, Int.reduceToNat]
    first | refine hK _ ?_ | refine ⟨by (first | trivial | omega | (simp only [ob, ln, bdv, sv] at *; omega) | ((try clear hK K); (repeat' first | apply And.intro | intro _) <;> first | trivial | omega | assumption | solve_by_elim | (apply bd_getD <;> first | assumption | decide) | (apply bd_subL <;> first | assumption | decide) | (simp only [ob, ln, bdv, sv] at *; first | omega | assumption | (simp_all; done) | grind))), hK _ ?_⟩
    clear hK K
    refine AWP.ret ?_
    subst hR
    (simp only [en, si, ea, gv, sv, hk, reduceCtorEq, reduceIte, Nat.reduceBEq, Nat.reduceAdd, Nat.reduceEqDiff, Nat.reduceLT, Nat.reduceLeDiff, Nat.reduceMul, Nat.reduceSub, BEq.rfl, beq_self_eq_true, Int.reduceToNat]; first | done | trivial | (and_intros <;> first | rfl | trivial | omega | (rw [IntKind.wrap_i64]; omega) | (simp only [ln]; done) | (simp only [ob, ln, bdv, sv] at *; first | omega | grind) | (left; intro j hj; simp only [pw, Bool.cond_eq_ite, Bool.and_eq_true, decide_eq_true_eq]; (repeat' split) <;> simp [putL, NoBorL, NoBor]) | (intro j hj; simp only [pw, Bool.cond_eq_ite, Bool.and_eq_true, decide_eq_true_eq]; (try rw [subL_getD _ _ _ _ (by first | assumption | omega)]); (try rw [clearL_getD _ _ _ _ (by first | omega | (simp only [ob, ln, bdv] at *; omega))]); (repeat' split) <;> first | rfl | omega | exact simOL_refl _ | (simp_all; done) | (simp_all; rfl) | (simp_all; omega) | (simp_all; exact simOL_refl _) | (simp [putL, NoBorL, NoBor]; done))))
  · first | simp only [hb, cond_false] at hR | (simp only [*] at hb; simp only [hb, cond_false] at hR)
    refine AWP.skip ?_
    refine AWP.seq ?_
    refine AWP.seq ?_
    refine AWP.regS G_ok laws_eqVisit_DD hc (by kernel_rfl) (fun K hK => ?_); simp only [ea, gv, sv, reduceCtorEq, reduceIte, Nat.reduceBEq, Nat.reduceAdd, Nat.reduceEqDiff, Nat.reduceLT, Nat.reduceLeDiff, Nat.reduceMul, Nat.reduceSub, BEq.rfl, beq_self_eq_true, Int.reduceToNat]
    first | refine hK _ ?_ | refine ⟨by (first | trivial | omega | (simp only [ob, ln, bdv, sv] at *; omega) | ((try clear hK K); (repeat' first | apply And.intro | intro _) <;> first | trivial | omega | assumption | solve_by_elim | (apply bd_getD <;> first | assumption | decide) | (apply bd_subL <;> first | assumption | decide) | (simp only [ob, ln, bdv, sv] at *; first | omega | assumption | (simp_all; done) | grind))), hK _ ?_⟩
    clear hK K
    refine AWP.cond rfl (fun hb => ?_) (fun hb => ?_)
    · first | simp only [hb, cond_true] at hR | (simp only [*] at hb; simp only [hb, cond_true] at hR)
      refine AWP.seq ?_
      refine AWP.regS G_ok laws_eqVisit_DD hc (by kernel_rfl) (fun K hK => ?_); simp only [ea, gv, sv, reduceCtorEq, reduceIte, Nat.reduceBEq, Nat.reduceAdd, Nat.reduceEqDiff, Nat.reduceLT, Nat.reduceLeDiff, Nat.reduceMul, Nat.reduceSub, BEq.rfl, beq_self_eq_true, Int.reduceToNat]
      first | refine hK _ ?_ | refine ⟨by (first | trivial | omega | (simp only [ob, ln, bdv, sv] at *; omega) | ((try clear hK K); (repeat' first | apply And.intro | intro _) <;> first | trivial | omega | assumption | solve_by_elim | (apply bd_getD <;> first | assumption | decide) | (apply bd_subL <;> first | assumption | decide) | (simp only [ob, ln, bdv, sv] at *; first | omega | assumption | (simp_all; done) | grind))), hK _ ?_⟩
      clear hK K
      refine AWP.ret ?_
      subst hR
      (simp only [en, si, ea, gv, sv, hk, reduceCtorEq, reduceIte, Nat.reduceBEq, Nat.reduceAdd, Nat.reduceEqDiff, Nat.reduceLT, Nat.reduceLeDiff, Nat.reduceMul, Nat.reduceSub, BEq.rfl, beq_self_eq_true, Int.reduceToNat]; first | done | trivial | (and_intros <;> first | rfl | trivial | omega | (rw [IntKind.wrap_i64]; omega) | (simp only [ln]; done) | (simp only [ob, ln, bdv, sv] at *; first | omega | grind) | (left; intro j hj; simp only [pw, Bool.cond_eq_ite, Bool.and_eq_true, decide_eq_true_eq]; (repeat' split) <;> simp [putL, NoBorL, NoBor]) | (intro j hj; simp only [pw, Bool.cond_eq_ite, Bool.and_eq_true, decide_eq_true_eq]; (try rw [subL_getD _ _ _ _ (by first | assumption | omega)]); (try rw [clearL_getD _ _ _ _ (by first | omega | (simp only [ob, ln, bdv] at *; omega))]); (repeat' split) <;> first | rfl | omega | exact simOL_refl _ | (simp_all; done) | (simp_all; rfl) | (simp_all; omega) | (simp_all; exact simOL_refl _) | (simp [putL, NoBorL, NoBor]; done))))
    · first | simp only [hb, cond_false] at hR | (simp only [*] at hb; simp only [hb, cond_false] at hR)
      refine AWP.skip ?_
      refine AWP.seq ?_
      refine AWP.seq ?_
      refine AWP.regS G_ok laws_eqVisit_DD hc (by kernel_rfl) (fun K hK => ?_); simp only [ea, gv, sv, reduceCtorEq, reduceIte, Nat.reduceBEq, Nat.reduceAdd, Nat.reduceEqDiff, Nat.reduceLT, Nat.reduceLeDiff, Nat.reduceMul, Nat.reduceSub, BEq.rfl, beq_self_eq_true, Int.reduceToNat]
      first | refine hK _ ?_ | refine ⟨by (first | trivial | omega | (simp only [ob, ln, bdv, sv] at *; omega) | ((try clear hK K); (repeat' first | apply And.intro | intro _) <;> first | trivial | omega | assumption | solve_by_elim | (apply bd_getD <;> first | assumption | decide) | (apply bd_subL <;> first | assumption | decide) | (simp only [ob, ln, bdv, sv] at *; first | omega | assumption | (simp_all; done) | grind))), hK _ ?_⟩
      clear hK K
      refine AWP.cond rfl (fun hb => ?_) (fun hb => ?_)
      · first | simp only [hb, cond_true] at hR | (simp only [*] at hb; simp only [hb, cond_true] at hR)
        refine AWP.seq ?_
        refine AWP.regS G_ok laws_eqVisit_DD hc (by kernel_rfl) (fun K hK => ?_); simp only [ea, gv, sv, reduceCtorEq, reduceIte, Nat.reduceBEq, Nat.reduceAdd, Nat.reduceEqDiff, Nat.reduceLT, Nat.reduceLeDiff, Nat.reduceMul, Nat.reduceSub, BEq.rfl, beq_self_eq_true, Int.reduceToNat]
        first | refine hK _ ?_ | refine ⟨by (first | trivial | omega | (simp only [ob, ln, bdv, sv] at *; omega) | ((try clear hK K); (repeat' first | apply And.intro | intro _) <;> first | trivial | omega | assumption | solve_by_elim | (apply bd_getD <;> first | assumption | decide) | (apply bd_subL <;> first | assumption | decide) | (simp only [ob, ln, bdv, sv] at *; first | omega | assumption | (simp_all; done) | grind))), hK _ ?_⟩
        clear hK K
        refine AWP.ret ?_
        subst hR
        (simp only [en, si, ea, gv, sv, hk, reduceCtorEq, reduceIte, Nat.reduceBEq, Nat.reduceAdd, Nat.reduceEqDiff, Nat.reduceLT, Nat.reduceLeDiff, Nat.reduceMul, Nat.reduceSub, BEq.rfl, beq_self_eq_true, Int.reduceToNat]; first | done | trivial | (and_intros <;> first | rfl | trivial | omega | (rw [IntKind.wrap_i64]; omega) | (simp only [ln]; done) | (simp only [ob, ln, bdv, sv] at *; first | omega | grind) | (left; intro j hj; simp only [pw, Bool.cond_eq_ite, Bool.and_eq_true, decide_eq_true_eq]; (repeat' split) <;> simp [putL, NoBorL, NoBor]) | (intro j hj; simp only [pw, Bool.cond_eq_ite, Bool.and_eq_true, decide_eq_true_eq]; (try rw [subL_getD _ _ _ _ (by first | assumption | omega)]); (try rw [clearL_getD _ _ _ _ (by first | omega | (simp only [ob, ln, bdv] at *; omega))]); (repeat' split) <;> first | rfl | omega | exact simOL_refl _ | (simp_all; done) | (simp_all; rfl) | (simp_all; omega) | (simp_all; exact simOL_refl _) | (simp [putL, NoBorL, NoBor]; done))))
      · first | simp only [hb, cond_false] at hR | (simp only [*] at hb; simp only [hb, cond_false] at hR)
        refine AWP.skip ?_
        refine AWP.seq ?_
        refine AWP.regS G_ok laws_eqVisit_DD hc (by kernel_rfl) (fun K hK => ?_); simp only [ea, gv, sv, reduceCtorEq, reduceIte, Nat.reduceBEq, Nat.reduceAdd, Nat.reduceEqDiff, Nat.reduceLT, Nat.reduceLeDiff, Nat.reduceMul, Nat.reduceSub, BEq.rfl, beq_self_eq_true, Int.reduceToNat]
        first | refine hK _ ?_ | refine ⟨by (first | trivial | omega | (simp only [ob, ln, bdv, sv] at *; omega) | ((try clear hK K); (repeat' first | apply And.intro | intro _) <;> first | trivial | omega | assumption | solve_by_elim | (apply bd_getD <;> first | assumption | decide) | (apply bd_subL <;> first | assumption | decide) | (simp only [ob, ln, bdv, sv] at *; first | omega | assumption | (simp_all; done) | grind))), hK _ ?_⟩
        clear hK K
        refine AWP.ret ?_
        subst hR
        (simp only [en, si, ea, gv, sv, hk, reduceCtorEq, reduceIte, Nat.reduceBEq, Nat.reduceAdd, Nat.reduceEqDiff, Nat.reduceLT, Nat.reduceLeDiff, Nat.reduceMul, Nat.reduceSub, BEq.rfl, beq_self_eq_true, Int.reduceToNat]; first | done | trivial | (and_intros <;> first | rfl | trivial | omega | (rw [IntKind.wrap_i64]; omega) | (simp only [ln]; done) | (simp only [ob, ln, bdv, sv] at *; first | omega | grind) | (left; intro j hj; simp only [pw, Bool.cond_eq_ite, Bool.and_eq_true, decide_eq_true_eq]; (repeat' split) <;> simp [putL, NoBorL, NoBor]) | (intro j hj; simp only [pw, Bool.cond_eq_ite, Bool.and_eq_true, decide_eq_true_eq]; (try rw [subL_getD _ _ _ _ (by first | assumption | omega)]); (try rw [clearL_getD _ _ _ _ (by first | omega | (simp only [ob, ln, bdv] at *; omega))]); (repeat' split) <;> first | rfl | omega | exact simOL_refl _ | (simp_all; done) | (simp_all; rfl) | (simp_all; omega) | (simp_all; exact simOL_refl _) | (simp [putL, NoBorL, NoBor]; done))))

def D_laws_eqVisit : DF
  | [x0, x1] => some (.bool (laws_eqVisit (rdG dVisit x0) (rdG dVisit x1)), false, [wG eVisit dVisit x0, wG eVisit dVisit x1])
  | _ => none
theorem D_laws_eqVisit_ok : OkD Try.prog 66 D_laws_eqVisit := by
  intro xs r z ob h ho
  unfold D_laws_eqVisit at h
  split at h
  · simp only [Option.some.injEq, Prod.mk.injEq] at h
    obtain ⟨rfl, rfl, rfl⟩ := h
    obtain ⟨h0, h1, _⟩ := ho
    exact Den.sim (laws_eqVisit_den _ _ ) (simOL_cons (wG_sim h0).1 <| simOL_cons (wG_sim h1).1 <| trivial) (noIdL_cons (wG_sim h0).2 <| noIdL_cons (wG_sim h1).2 <| rfl) rfl
  · cases h
end Go.Ab

namespace Go.Ab
open Go Go.Proofs
theorem laws_eqVisitS_DD : DOk Try.prog (DD [(66, dP D_laws_eqVisit)]) := DD_cons D_laws_eqVisit_ok.e <| DD_nil _
def laws_eqVisitS_b1 (a0 : (List Visit)) (a1 : (List Visit)) (i1 : Nat) (s1 : Unit) : Except (Bool) (Unit) :=
  (bif (!(laws_eqVisit (a0.getD i1 default) (a1.getD i1 default))) then .error false else .ok ())

def laws_eqVisitS (a0 : (List Visit)) (a1 : (List Visit)) : Bool :=
  (bif ((a0.length : Int) != (a1.length : Int)) then false else (match loopR (laws_eqVisitS_b1 a0 a1) (a0.length - 0) 0 () with | .error e => e | .ok s1 => true))

theorem laws_eqVisitS_den (a0 : (List Visit)) (a1 : (List Visit)) (hb0 : a0.length < 1099511627776) (hb1 : a1.length < 1099511627776) : Den Try.prog 23 [encL 3 eVisit a0, encL 3 eVisit a1] (.bool (laws_eqVisitS a0 a1)) := by
  generalize hR : laws_eqVisitS a0 a1 = r
  unfold laws_eqVisitS at hR
  refine den_intro G_ok Try.func23 (by kernel_rfl) rfl Try.ntmps23 (by rw [Try.results23]) (by simp) rfl ?_
  intro c hc hk
  simp only [pars, Nat.zero_add]
  refine AWP.seq ?_
  refine AWP.regS G_ok laws_eqVisitS_DD hc (by kernel_rfl) (fun K hK => ?_); simp only [ea, gv, sv, D_laws_eqVisit, reduceCtorEq, reduceIte, Nat.reduceBEq, Nat.reduceAdd, Nat.reduceEqDiff, Nat.reduceLT, Nat.reduceLeDiff, Nat.reduceMul, Nat.reduceSub, BEq.rfl, beq_self_eq_true, Int.reduceToNat]
  first | refine hK _ ?_ | refine ⟨by (first | trivial | omega | (simp only [ob, ln, bdv, sv] at *; omega) | ((try clear hK K); (repeat' first | apply And.intro | intro _) <;> first | trivial | omega | assumption | solve_by_elim | (apply bd_getD <;> first | assumption | decide) | (apply bd_subL <;> first | assumption | decide) | (simp only [ob, ln, bdv, sv] at *; first | omega | assumption | (simp_all; done) | grind))), hK _ ?_⟩
  clear hK K
  refine AWP.seq ?_
  refine AWP.seq ?_
  refine AWP.regS G_ok laws_eqVisitS_DD hc (by kernel_rfl) (fun K hK => ?_); simp only [ea, gv, sv, D_laws_eqVisit, reduceCtorEq, reduceIte, Nat.reduceBEq, Nat.reduceAdd, Nat.reduceEqDiff, Nat.reduceLT, Nat.reduceLeDiff, Nat.reduceMul, Nat.reduceSub, BEq.rfl, beq_self_eq_true, Int.reduceToNat]
  first | refine hK _ ?_ | refine ⟨by (first | trivial | omega | (simp only [ob, ln, bdv, sv] at *; omega) | ((try clear hK K); (repeat' first | apply And.intro | intro _) <;> first | trivial | omega | assumption | solve_by_elim | (apply bd_getD <;> first | assumption | decide) | (apply bd_subL <;> first | assumption | decide) | (simp only [ob, ln, bdv, sv] at *; first | omega | assumption | (simp_all; done) | grind))), hK _ ?_⟩
  clear hK K
  refine AWP.cond rfl (fun hb => ?_) (fun hb => ?_)
  · first | simp only [hb, cond_true] at hR | (simp only [*] at hb; simp only [hb, cond_true] at hR)
    refine AWP.seq ?_
    refine AWP.regS G_ok laws_eqVisitS_DD hc (by kernel_rfl) (fun K hK => ?_); simp only [ea, gv, sv, D_laws_eqVisit, reduceCtorEq, reduceIte, Nat.reduceBEq, Nat.reduceAdd, Nat.reduceEqDiff, Nat.reduceLT, Nat.reduceLeDiff, Nat.reduceMul, Nat.reduceSub, BEq.rfl, beq_self_eq_true, Int.reduceToNat]
    first | refine hK _ ?_ | refine ⟨by (first | trivial | omega | (simp only [ob, ln, bdv, sv] at *; omega) | ((try clear hK K); (repeat' first | apply And.intro | intro _) <;> first | trivial | omega | assumption | solve_by_elim | (apply bd_getD <;> first | assumption | decide) | (apply bd_subL <;> first | assumption | decide) | (simp only [ob, ln, bdv, sv] at *; first | omega | assumption | (simp_all; done) | grind))), hK _ ?_⟩
    clear hK K
    refine AWP.ret ?_
    subst hR
    (simp only [en, si, ea, gv, sv, hk, reduceCtorEq, reduceIte, Nat.reduceBEq, Nat.reduceAdd, Nat.reduceEqDiff, Nat.reduceLT, Nat.reduceLeDiff, Nat.reduceMul, Nat.reduceSub, BEq.rfl, beq_self_eq_true, Int.reduceToNat]; first | done | trivial | (and_intros <;> first | rfl | trivial | omega | (rw [IntKind.wrap_i64]; omega) | (simp only [ln]; done) | (simp only [ob, ln, bdv, sv] at *; first | omega | grind) | (left; intro j hj; simp only [pw, Bool.cond_eq_ite, Bool.and_eq_true, decide_eq_true_eq]; (repeat' split) <;> simp [putL, NoBorL, NoBor]) | (intro j hj; simp only [pw, Bool.cond_eq_ite, Bool.and_eq_true, decide_eq_true_eq]; (try rw [subL_getD _ _ _ _ (by first | assumption | omega)]); (try rw [clearL_getD _ _ _ _ (by first | omega | (simp only [ob, ln, bdv] at *; omega))]); (repeat' split) <;> first | rfl | omega | exact simOL_refl _ | (simp_all; done) | (simp_all; rfl) | (simp_all; omega) | (simp_all; exact simOL_refl _) | (simp [putL, NoBorL, NoBor]; done))))
  · first | simp only [hb, cond_false] at hR | (simp only [*] at hb; simp only [hb, cond_false] at hR)
    refine AWP.skip ?_
    refine AWP.seq ?_
    refine AWP.seq ?_
    refine AWP.regS G_ok laws_eqVisitS_DD hc (by kernel_rfl) (fun K hK => ?_); simp only [ea, gv, sv, D_laws_eqVisit, reduceCtorEq, reduceIte, Nat.reduceBEq, Nat.reduceAdd, Nat.reduceEqDiff, Nat.reduceLT, Nat.reduceLeDiff, Nat.reduceMul, Nat.reduceSub, BEq.rfl, beq_self_eq_true, Int.reduceToNat]
    first | refine hK _ ?_ | refine ⟨by (first | trivial | omega | (simp only [ob, ln, bdv, sv] at *; omega) | ((try clear hK K); (repeat' first | apply And.intro | intro _) <;> first | trivial | omega | assumption | solve_by_elim | (apply bd_getD <;> first | assumption | decide) | (apply bd_subL <;> first | assumption | decide) | (simp only [ob, ln, bdv, sv] at *; first | omega | assumption | (simp_all; done) | grind))), hK _ ?_⟩
    clear hK K
    refine AWP.block ?_
    generalize hz1 : loopR (laws_eqVisitS_b1 a0 a1) (a0.length - 0) 0 () = z1 at hR
    refine AWP.range (laws_eqVisitS_b1 a0 a1) (fun i1 s1 => ⟨[(0, encL 3 eVisit a0), (1, encL 3 eVisit a1), (5, .int .i64 (i1 : Int))], []⟩) (fun i1 s1 => True) (a0.length) 0 () [] hz1 (by (first | trivial | omega | (simp only [ob, ln, bdv, sv] at *; omega) | ((try clear hK K); (repeat' first | apply And.intro | intro _) <;> first | trivial | omega | assumption | solve_by_elim | (apply bd_getD <;> first | assumption | decide) | (apply bd_subL <;> first | assumption | decide) | (simp only [ob, ln, bdv, sv] at *; first | omega | assumption | (simp_all; done) | grind)))) (by (first | trivial | (and_intros <;> simp only [ln] <;> omega) | (and_intros <;> simp only [ob, ln] at * <;> omega) | (and_intros <;> first | trivial | omega | assumption | (apply bd_set <;> first | assumption | (apply bd_getD <;> first | assumption | decide)) | (apply bd_app <;> first | assumption | (apply bd_getD <;> first | assumption | decide)) | (simp only [ob, ln, bdv, sv] at *; omega) | (simp; done)))) (by (simp only [si, ea, gv, sv, hk, reduceCtorEq, reduceIte, Nat.reduceBEq, Nat.reduceAdd, Nat.reduceEqDiff, Nat.reduceLT, Nat.reduceLeDiff, Nat.reduceMul, Nat.reduceSub, BEq.rfl, beq_self_eq_true, Int.reduceToNat]; first | done | trivial | (and_intros <;> first | rfl | trivial | omega | (rw [IntKind.wrap_i64]; omega) | (simp only [ln]; done) | (simp only [ob, ln, bdv, sv] at *; first | omega | grind) | (left; intro j hj; simp only [pw, Bool.cond_eq_ite, Bool.and_eq_true, decide_eq_true_eq]; (repeat' split) <;> simp [putL, NoBorL, NoBor]) | (intro j hj; simp only [pw, Bool.cond_eq_ite, Bool.and_eq_true, decide_eq_true_eq]; (try rw [subL_getD _ _ _ _ (by first | assumption | omega)]); (try rw [clearL_getD _ _ _ _ (by first | omega | (simp only [ob, ln, bdv] at *; omega))]); (repeat' split) <;> first | rfl | omega | exact simOL_refl _ | (simp_all; done) | (simp_all; rfl) | (simp_all; omega) | (simp_all; exact simOL_refl _) | (simp [putL, NoBorL, NoBor]; done))))) ?_
    clear hz1
    intro i1 s1 hi1 hW1 hz1
    refine AWP.seq ?_
    refine AWP.seq ?_
    refine AWP.regS G_ok laws_eqVisitS_DD hc (by kernel_rfl) (fun K hK => ?_); simp only [ea, gv, sv, D_laws_eqVisit, reduceCtorEq, reduceIte, Nat.reduceBEq, Nat.reduceAdd, Nat.reduceEqDiff, Nat.reduceLT, Nat.reduceLeDiff, Nat.reduceMul, Nat.reduceSub, BEq.rfl, beq_self_eq_true, Int.reduceToNat]
    first | refine hK _ ?_ | refine ⟨by (first | trivial | omega | (simp only [ob, ln, bdv, sv] at *; omega) | ((try clear hK K); (repeat' first | apply And.intro | intro _) <;> first | trivial | omega | assumption | solve_by_elim | (apply bd_getD <;> first | assumption | decide) | (apply bd_subL <;> first | assumption | decide) | (simp only [ob, ln, bdv, sv] at *; first | omega | assumption | (simp_all; done) | grind))), hK _ ?_⟩
    clear hK K
    refine AWP.cond rfl (fun hb => ?_) (fun hb => ?_)
    · have hlt1 : i1 < a0.length := by (first | trivial | omega | (simp only [ob, ln, bdv, sv] at *; omega) | ((try clear hK K); (repeat' first | apply And.intro | intro _) <;> first | trivial | omega | assumption | solve_by_elim | (apply bd_getD <;> first | assumption | decide) | (apply bd_subL <;> first | assumption | decide) | (simp only [ob, ln, bdv, sv] at *; first | omega | assumption | (simp_all; done) | grind)))
      rw [loopR_lt hlt1] at hz1; simp only [laws_eqVisitS_b1] at hz1
      refine AWP.skip ?_
      refine AWP.seq ?_
      refine AWP.block ?_
      refine AWP.seq ?_
      refine AWP.regM mixed G_ok laws_eqVisitS_DD hc (by kernel_rfl) (by kernel_rfl) (fun K hK => ?_); simp only [ea, gv, sv, D_laws_eqVisit, reduceCtorEq, reduceIte, Nat.reduceBEq, Nat.reduceAdd, Nat.reduceEqDiff, Nat.reduceLT, Nat.reduceLeDiff, Nat.reduceMul, Nat.reduceSub, BEq.rfl, beq_self_eq_true, Int.reduceToNat]
      first | refine hK _ ?_ | refine ⟨by (first | trivial | omega | (simp only [ob, ln, bdv, sv] at *; omega) | ((try clear hK K); (repeat' first | apply And.intro | intro _) <;> first | trivial | omega | assumption | solve_by_elim | (apply bd_getD <;> first | assumption | decide) | (apply bd_subL <;> first | assumption | decide) | (simp only [ob, ln, bdv, sv] at *; first | omega | assumption | (simp_all; done) | grind))), hK _ ?_⟩
      clear hK K
      refine AWP.cond rfl (fun hb => ?_) (fun hb => ?_)
      · first | simp only [hb, cond_true] at hz1 | (simp only [*] at hb; simp only [hb, cond_true] at hz1)
        refine AWP.seq ?_
        refine AWP.regS G_ok laws_eqVisitS_DD hc (by kernel_rfl) (fun K hK => ?_); simp only [ea, gv, sv, D_laws_eqVisit, reduceCtorEq, reduceIte, Nat.reduceBEq, Nat.reduceAdd, Nat.reduceEqDiff, Nat.reduceLT, Nat.reduceLeDiff, Nat.reduceMul, Nat.reduceSub, BEq.rfl, beq_self_eq_true, Int.reduceToNat]
        first | refine hK _ ?_ | refine ⟨by (first | trivial | omega | (simp only [ob, ln, bdv, sv] at *; omega) | ((try clear hK K); (repeat' first | apply And.intro | intro _) <;> first | trivial | omega | assumption | solve_by_elim | (apply bd_getD <;> first | assumption | decide) | (apply bd_subL <;> first | assumption | decide) | (simp only [ob, ln, bdv, sv] at *; first | omega | assumption | (simp_all; done) | grind))), hK _ ?_⟩
        clear hK K
        refine AWP.ret ?_
        subst hz1
        dsimp only at hR
        subst hR
        (simp only [en, si, ea, gv, sv, hk, reduceCtorEq, reduceIte, Nat.reduceBEq, Nat.reduceAdd, Nat.reduceEqDiff, Nat.reduceLT, Nat.reduceLeDiff, Nat.reduceMul, Nat.reduceSub, BEq.rfl, beq_self_eq_true, Int.reduceToNat]; first | done | trivial | (and_intros <;> first | rfl | trivial | omega | (rw [IntKind.wrap_i64]; omega) | (simp only [ln]; done) | (simp only [ob, ln, bdv, sv] at *; first | omega | grind) | (left; intro j hj; simp only [pw, Bool.cond_eq_ite, Bool.and_eq_true, decide_eq_true_eq]; (repeat' split) <;> simp [putL, NoBorL, NoBor]) | (intro j hj; simp only [pw, Bool.cond_eq_ite, Bool.and_eq_true, decide_eq_true_eq]; (try rw [subL_getD _ _ _ _ (by first | assumption | omega)]); (try rw [clearL_getD _ _ _ _ (by first | omega | (simp only [ob, ln, bdv] at *; omega))]); (repeat' split) <;> first | rfl | omega | exact simOL_refl _ | (simp_all; done) | (simp_all; rfl) | (simp_all; omega) | (simp_all; exact simOL_refl _) | (simp [putL, NoBorL, NoBor]; done))))
      · first | simp only [hb, cond_false] at hz1 | (simp only [*] at hb; simp only [hb, cond_false] at hz1)
        refine AWP.skip ?_
        refine AWP.regS G_ok laws_eqVisitS_DD hc (by kernel_rfl) (fun K hK => ?_); simp only [ea, gv, sv, D_laws_eqVisit, reduceCtorEq, reduceIte, Nat.reduceBEq, Nat.reduceAdd, Nat.reduceEqDiff, Nat.reduceLT, Nat.reduceLeDiff, Nat.reduceMul, Nat.reduceSub, BEq.rfl, beq_self_eq_true, Int.reduceToNat]
        first | refine hK _ ?_ | refine ⟨by (first | trivial | omega | (simp only [ob, ln, bdv, sv] at *; omega) | ((try clear hK K); (repeat' first | apply And.intro | intro _) <;> first | trivial | omega | assumption | solve_by_elim | (apply bd_getD <;> first | assumption | decide) | (apply bd_subL <;> first | assumption | decide) | (simp only [ob, ln, bdv, sv] at *; first | omega | assumption | (simp_all; done) | grind))), hK _ ?_⟩
        clear hK K
        exact ⟨_, [], hlt1, by (first | trivial | (and_intros <;> simp only [ln] <;> omega) | (and_intros <;> simp only [ob, ln] at * <;> omega) | (and_intros <;> first | trivial | omega | assumption | (apply bd_set <;> first | assumption | (apply bd_getD <;> first | assumption | decide)) | (apply bd_app <;> first | assumption | (apply bd_getD <;> first | assumption | decide)) | (simp only [ob, ln, bdv, sv] at *; omega) | (simp; done))), hz1, by (simp only [si, ea, gv, sv, hk, reduceCtorEq, reduceIte, Nat.reduceBEq, Nat.reduceAdd, Nat.reduceEqDiff, Nat.reduceLT, Nat.reduceLeDiff, Nat.reduceMul, Nat.reduceSub, BEq.rfl, beq_self_eq_true, Int.reduceToNat]; first | done | trivial | (and_intros <;> first | rfl | trivial | omega | (rw [IntKind.wrap_i64]; omega) | (simp only [ln]; done) | (simp only [ob, ln, bdv, sv] at *; first | omega | grind) | (left; intro j hj; simp only [pw, Bool.cond_eq_ite, Bool.and_eq_true, decide_eq_true_eq]; (repeat' split) <;> simp [putL, NoBorL, NoBor]) | (intro j hj; simp only [pw, Bool.cond_eq_ite, Bool.and_eq_true, decide_eq_true_eq]; (try rw [subL_getD _ _ _ _ (by first | assumption | omega)]); (try rw [clearL_getD _ _ _ _ (by first | omega | (simp only [ob, ln, bdv] at *; omega))]); (repeat' split) <;> first | rfl | omega | exact simOL_refl _ | (simp_all; done) | (simp_all; rfl) | (simp_all; omega) | (simp_all; exact simOL_refl _) | (simp [putL, NoBorL, NoBor]; done))))⟩
    · obtain rfl : i1 = a0.length := by (first | trivial | omega | (simp only [ob, ln, bdv, sv] at *; omega) | ((try clear hK K); (repeat' first | apply And.intro | intro _) <;> first | trivial | omega | assumption | solve_by_elim | (apply bd_getD <;> first | assumption | decide) | (apply bd_subL <;> first | assumption | decide) | (simp only [ob, ln, bdv, sv] at *; first | omega | assumption | (simp_all; done) | grind)))
      rw [loopR_ge (Nat.le_refl _)] at hz1; subst hz1; dsimp only at hR
      refine AWP.exit ?_; refine exitTo_here ?_
      refine AWP.seq ?_
      refine AWP.regS G_ok laws_eqVisitS_DD hc (by kernel_rfl) (fun K hK => ?_); simp only [ea, gv, sv, D_laws_eqVisit, reduceCtorEq, reduceIte, Nat.reduceBEq, Nat.reduceAdd, Nat.reduceEqDiff, Nat.reduceLT, Nat.reduceLeDiff, Nat.reduceMul, Nat.reduceSub, BEq.rfl, beq_self_eq_true, Int.reduceToNat]
      first | refine hK _ ?_ | refine ⟨by (first | trivial | omega | (simp only [ob, ln, bdv, sv] at *; omega) | ((try clear hK K); (repeat' first | apply And.intro | intro _) <;> first | trivial | omega | assumption | solve_by_elim | (apply bd_getD <;> first | assumption | decide) | (apply bd_subL <;> first | assumption | decide) | (simp only [ob, ln, bdv, sv] at *; first | omega | assumption | (simp_all; done) | grind))), hK _ ?_⟩
      clear hK K
      refine AWP.ret ?_
      subst hR
      (simp only [en, si, ea, gv, sv, hk, reduceCtorEq, reduceIte, Nat.reduceBEq, Nat.reduceAdd, Nat.reduceEqDiff, Nat.reduceLT, Nat.reduceLeDiff, Nat.reduceMul, Nat.reduceSub, BEq.rfl, beq_self_eq_true, Int.reduceToNat]; first | done | trivial | (and_intros <;> first | rfl | trivial | omega | (rw [IntKind.wrap_i64]; omega) | (simp only [ln]; done) | (simp only [ob, ln, bdv, sv] at *; first | omega | grind) | (left; intro j hj; simp only [pw, Bool.cond_eq_ite, Bool.and_eq_true, decide_eq_true_eq]; (repeat' split) <;> simp [putL, NoBorL, NoBor]) | (intro j hj; simp only [pw, Bool.cond_eq_ite, Bool.and_eq_true, decide_eq_true_eq]; (try rw [subL_getD _ _ _ _ (by first | assumption | omega)]); (try rw [clearL_getD _ _ _ _ (by first | omega | (simp only [ob, ln, bdv] at *; omega))]); (repeat' split) <;> first | rfl | omega | exact simOL_refl _ | (simp_all; done) | (simp_all; rfl) | (simp_all; omega) | (simp_all; exact simOL_refl _) | (simp [putL, NoBorL, NoBor]; done))))

def D_laws_eqVisitS : DF
  | [x0, x1] => some (.bool (laws_eqVisitS (rdL dVisit x0) (rdL dVisit x1)), false, [wL 3 eVisit dVisit x0, wL 3 eVisit dVisit x1, (rdL dVisit x0).length < 1099511627776, (rdL dVisit x1).length < 1099511627776])
  | _ => none
theorem D_laws_eqVisitS_ok : OkD Try.prog 23 D_laws_eqVisitS := by
  intro xs r z ob h ho
  unfold D_laws_eqVisitS at h
  split at h
  · simp only [Option.some.injEq, Prod.mk.injEq] at h
    obtain ⟨rfl, rfl, rfl⟩ := h
    obtain ⟨h0, h1, hb0, hb1, _⟩ := ho
    exact Den.sim (laws_eqVisitS_den _ _ hb0 hb1) (simOL_cons (wL_sim h0).1 <| simOL_cons (wL_sim h1).1 <| trivial) (noIdL_cons (wL_sim h0).2 <| noIdL_cons (wL_sim h1).2 <| rfl) rfl
  · cases h
end Go.Ab

namespace Go.Ab
open Go Go.Proofs
theorem laws_eqVisit_dec (a b : Visit) : laws_eqVisit a b = decide (a = b) := by
  unfold laws_eqVisit
  by_cases h : a = b
  · subst h; simp
  · rw [decide_eq_false h]
    cases a; cases b
    simp only [Visit.mk.injEq] at h
    simp only [bne_iff_ne, Bool.cond_eq_ite, ite_eq_right_iff]
    (repeat' split) <;> simp_all
theorem laws_eqVisitS_dec (a b : List Visit) : laws_eqVisitS a b = decide (a = b) := by
  unfold laws_eqVisitS
  by_cases hl : a.length = b.length
  · have h1 : ((a.length : Int) != (b.length : Int)) = false := by simp [hl]
    rw [h1, cond_false, loopR_any (b := laws_eqVisitS_b1 a b) (fun j => !decide (a.getD j default = b.getD j default)) false (fun j u _ _ => by simp only [laws_eqVisitS_b1, laws_eqVisit_dec])]
    simp only [Nat.sub_zero, Nat.zero_add]
    rw [any_ne a b hl]
    by_cases h : a = b <;> simp [h]
  · have h1 : ((a.length : Int) != (b.length : Int)) = true := by simp; omega
    have h2 : ¬ a = b := fun e => hl (by rw [e])
    rw [h1, cond_true, decide_eq_false h2]
end Go.Ab

namespace Go.Ab
open Go Go.Proofs
theorem laws_szVisitS_DD : DOk Try.prog (DD []) := DD_nil _
def laws_szVisitS (a0 : (List Visit)) (a1 : Int) : Int :=
  (bif decide ((IntKind.wrap .i64 (a1 - (a0.length : Int))) < 0) then (-1) else IntKind.wrap .i64 (a1 - (a0.length : Int)))

theorem laws_szVisitS_den (a0 : (List Visit)) (a1 : Int) (hb0 : a0.length < 9223372036854775808) (hp0 : -1 ≤ a1) (hp1 : a1 ≤ 1048576) : Den Try.prog 19 [encL 3 eVisit a0, .int .i64 a1] (.int .i64 (laws_szVisitS a0 a1)) := by
  generalize hR : laws_szVisitS a0 a1 = r
  unfold laws_szVisitS at hR
  refine den_intro G_ok Try.func19 (by kernel_rfl) rfl Try.ntmps19 (by rw [Try.results19]) (by simp) rfl ?_
  intro c hc hk
  simp only [pars, Nat.zero_add]
  refine AWP.seq ?_
  refine AWP.regS G_ok laws_szVisitS_DD hc (by kernel_rfl) (fun K hK => ?_); simp only [ea, gv, sv, reduceCtorEq, reduceIte, Nat.reduceBEq, Nat.reduceAdd, Nat.reduceEqDiff, Nat.reduceLT, Nat.reduceLeDiff, Nat.reduceMul, Nat.reduceSub, BEq.rfl, beq_self_eq_true, Int.reduceToNat]
  first | refine hK _ ?_ | refine ⟨by (first | trivial | omega | (simp only [ob, ln, bdv, sv] at *; omega) | ((try clear hK K); (repeat' first | apply And.intro | intro _) <;> first | trivial | omega | assumption | solve_by_elim | (apply bd_getD <;> first | assumption | decide) | (apply bd_subL <;> first | assumption | decide) | (simp only [ob, ln, bdv, sv] at *; first | omega | assumption | (simp_all; done) | grind))), hK _ ?_⟩
  clear hK K
  refine AWP.seq ?_
  refine AWP.regS G_ok laws_szVisitS_DD hc (by kernel_rfl) (fun K hK => ?_); simp only [ea, gv, sv, reduceCtorEq, reduceIte, Nat.reduceBEq, Nat.reduceAdd, Nat.reduceEqDiff, Nat.reduceLT, Nat.reduceLeDiff, Nat.reduceMul, Nat.reduceSub, BEq.rfl, beq_self_eq_true, Int.reduceToNat]
  first | refine hK _ ?_ | refine ⟨by (first | trivial | omega | (simp only [ob, ln, bdv, sv] at *; omega) | ((try clear hK K); (repeat' first | apply And.intro | intro _) <;> first | trivial | omega | assumption | solve_by_elim | (apply bd_getD <;> first | assumption | decide) | (apply bd_subL <;> first | assumption | decide) | (simp only [ob, ln, bdv, sv] at *; first | omega | assumption | (simp_all; done) | grind))), hK _ ?_⟩
  clear hK K
  refine AWP.seq ?_
  refine AWP.seq ?_
  refine AWP.regS G_ok laws_szVisitS_DD hc (by kernel_rfl) (fun K hK => ?_); simp only [ea, gv, sv, reduceCtorEq, reduceIte, Nat.reduceBEq, Nat.reduceAdd, Nat.reduceEqDiff, Nat.reduceLT, Nat.reduceLeDiff, Nat.reduceMul, Nat.reduceSub, BEq.rfl, beq_self_eq_true, Int.reduceToNat]
  first | refine hK _ ?_ | refine ⟨by (first | trivial | omega | (simp only [ob, ln, bdv, sv] at *; omega) | ((try clear hK K); (repeat' first | apply And.intro | intro _) <;> first | trivial | omega | assumption | solve_by_elim | (apply bd_getD <;> first | assumption | decide) | (apply bd_subL <;> first | assumption | decide) | (simp only [ob, ln, bdv, sv] at *; first | omega | assumption | (simp_all; done) | grind))), hK _ ?_⟩
  clear hK K
  refine AWP.cond rfl (fun hb => ?_) (fun hb => ?_)
  · first | simp only [hb, cond_true] at hR | (simp only [*] at hb; simp only [hb, cond_true] at hR)
    refine AWP.seq ?_
    refine AWP.regS G_ok laws_szVisitS_DD hc (by kernel_rfl) (fun K hK => ?_); simp only [ea, gv, sv, reduceCtorEq, reduceIte, Nat.reduceBEq, Nat.reduceAdd, Nat.reduceEqDiff, Nat.reduceLT, Nat.reduceLeDiff, Nat.reduceMul, Nat.reduceSub, BEq.rfl, beq_self_eq_true, Int.reduceToNat]
    first | refine hK _ ?_ | refine ⟨by (first | trivial | omega | (simp only [ob, ln, bdv, sv] at *; omega) | ((try clear hK K); (repeat' first | apply And.intro | intro _) <;> first | trivial | omega | assumption | solve_by_elim | (apply bd_getD <;> first | assumption | decide) | (apply bd_subL <;> first | assumption | decide) | (simp only [ob, ln, bdv, sv] at *; first | omega | assumption | (simp_all; done) | grind))), hK _ ?_⟩
    clear hK K
    refine AWP.ret ?_
    subst hR
    (simp only [en, si, ea, gv, sv, hk, reduceCtorEq, reduceIte, Nat.reduceBEq, Nat.reduceAdd, Nat.reduceEqDiff, Nat.reduceLT, Nat.reduceLeDiff, Nat.reduceMul, Nat.reduceSub, BEq.rfl, beq_self_eq_true, Int.reduceToNat]; first | done | trivial | (and_intros <;> first | rfl | trivial | omega | (rw [IntKind.wrap_i64]; omega) | (simp only [ln]; done) | (simp only [ob, ln, bdv, sv] at *; first | omega | grind) | (left; intro j hj; simp only [pw, Bool.cond_eq_ite, Bool.and_eq_true, decide_eq_true_eq]; (repeat' split) <;> simp [putL, NoBorL, NoBor]) | (intro j hj; simp only [pw, Bool.cond_eq_ite, Bool.and_eq_true, decide_eq_true_eq]; (try rw [subL_getD _ _ _ _ (by first | assumption | omega)]); (try rw [clearL_getD _ _ _ _ (by first | omega | (simp only [ob, ln, bdv] at *; omega))]); (repeat' split) <;> first | rfl | omega | exact simOL_refl _ | (simp_all; done) | (simp_all; rfl) | (simp_all; omega) | (simp_all; exact simOL_refl _) | (simp [putL, NoBorL, NoBor]; done))))
  · first | simp only [hb, cond_false] at hR | (simp only [*] at hb; simp only [hb, cond_false] at hR)
    refine AWP.skip ?_
    refine AWP.seq ?_
    refine AWP.regS G_ok laws_szVisitS_DD hc (by kernel_rfl) (fun K hK => ?_); simp only [ea, gv, sv, reduceCtorEq, reduceIte, Nat.reduceBEq, Nat.reduceAdd, Nat.reduceEqDiff, Nat.reduceLT, Nat.reduceLeDiff, Nat.reduceMul, Nat.reduceSub, BEq.rfl, beq_self_eq_true, Int.reduceToNat]
    first | refine hK _ ?_ | refine ⟨by (first | trivial | omega | (simp only [ob, ln, bdv, sv] at *; omega) | ((try clear hK K); (repeat' first | apply And.intro | intro _) <;> first | trivial | omega | assumption | solve_by_elim | (apply bd_getD <;> first | assumption | decide) | (apply bd_subL <;> first | assumption | decide) | (simp only [ob, ln, bdv, sv] at *; first | omega | assumption | (simp_all; done) | grind))), hK _ ?_⟩
    clear hK K
    refine AWP.ret ?_
    subst hR
    (simp only [en, si, ea, gv, sv, hk, reduceCtorEq, reduceIte, Nat.reduceBEq, Nat.reduceAdd, Nat.reduceEqDiff, Nat.reduceLT, Nat.reduceLeDiff, Nat.reduceMul, Nat.reduceSub, BEq.rfl, beq_self_eq_true, Int.reduceToNat]; first | done | trivial | (and_intros <;> first | rfl | trivial | omega | (rw [IntKind.wrap_i64]; omega) | (simp only [ln]; done) | (simp only [ob, ln, bdv, sv] at *; first | omega | grind) | (left; intro j hj; simp only [pw, Bool.cond_eq_ite, Bool.and_eq_true, decide_eq_true_eq]; (repeat' split) <;> simp [putL, NoBorL, NoBor]) | (intro j hj; simp only [pw, Bool.cond_eq_ite, Bool.and_eq_true, decide_eq_true_eq]; (try rw [subL_getD _ _ _ _ (by first | assumption | omega)]); (try rw [clearL_getD _ _ _ _ (by first | omega | (simp only [ob, ln, bdv] at *; omega))]); (repeat' split) <;> first | rfl | omega | exact simOL_refl _ | (simp_all; done) | (simp_all; rfl) | (simp_all; omega) | (simp_all; exact simOL_refl _) | (simp [putL, NoBorL, NoBor]; done))))

def D_laws_szVisitS : DF
  | [x0, x1] => some (.int .i64 (laws_szVisitS (rdL dVisit x0) (rdI x1)), false, [wL 3 eVisit dVisit x0, wI .i64 x1, (rdL dVisit x0).length < 9223372036854775808, -1 ≤ (rdI x1), (rdI x1) ≤ 1048576])
  | _ => none
theorem D_laws_szVisitS_ok : OkD Try.prog 19 D_laws_szVisitS := by
  intro xs r z ob h ho
  unfold D_laws_szVisitS at h
  split at h
  · simp only [Option.some.injEq, Prod.mk.injEq] at h
    obtain ⟨rfl, rfl, rfl⟩ := h
    obtain ⟨h0, h1, hb0, hp0, hp1, _⟩ := ho
    exact Den.sim (laws_szVisitS_den _ _ hb0 hp0 hp1) (simOL_cons (wL_sim h0).1 <| simOL_cons (wI_sim h1).1 <| trivial) (noIdL_cons (wL_sim h0).2 <| noIdL_cons (wI_sim h1).2 <| rfl) rfl
  · cases h
end Go.Ab

namespace Go.Ab
open Go Go.Proofs
theorem laws_szVisitS_facts (a : List Visit) (n : Int) (h0 : -1 ≤ n) (h1 : n ≤ 1048576) (hl : a.length < 9223372036854775808) :
    -1 ≤ laws_szVisitS a n ∧ laws_szVisitS a n ≤ n ∧ (¬ laws_szVisitS a n < 0 → a.length ≤ 1048576) := by
  unfold laws_szVisitS
  rw [IntKind.wrap_i64]
  cases hd : decide ((n - (a.length : Int) + 9223372036854775808) % 18446744073709551616 - 9223372036854775808 < 0) with
  | true => simp; omega
  | false =>
    simp only [cond_false]
    have hd2 := of_decide_eq_false hd
    omega
end Go.Ab

namespace Go.Ab
open Go Go.Proofs
theorem laws_markVisitS_DD : DOk Try.prog (DD []) := DD_nil _
def laws_markVisitS_b1 (a0 : (List Visit)) (a1 : Int) (i1 : Nat) (s1 : Int × List Visit) : Except (Int × (List Visit)) (Int × List Visit) :=
  .ok (IntKind.wrap .i64 ((IntKind.wrap .i64 ((IntKind.wrap .i64 (s1.1 + 1)) + 1)) + 1), s1.2.set i1 ({ Aid := s1.1, Every := IntKind.wrap .i64 (s1.1 + 1), Last := IntKind.wrap .i64 ((IntKind.wrap .i64 (s1.1 + 1)) + 1) : Visit }))

def laws_markVisitS (a0 : (List Visit)) (a1 : Int) : Int × (List Visit) :=
  (match loopR (laws_markVisitS_b1 a0 a1) (a0.length - 0) 0 (a1, a0) with | .error e => e | .ok s1 => (s1.1, s1.2))

theorem laws_markVisitS_den (a0 : (List Visit)) (a1 : Int) (hb0 : a0.length < 1099511627776) : DenM Try.prog 24 [ownL 83 3 eVisit a0, .int .i64 a1] (.int .i64 ((laws_markVisitS a0 a1).1)) [(ownL 83 3 eVisit ((laws_markVisitS a0 a1).2)), .any] := by
  generalize hR : laws_markVisitS a0 a1 = r
  unfold laws_markVisitS at hR
  refine den_introM (gb := [true, false]) G_ok Try.func24 (by kernel_rfl) rfl Try.ntmps24 (by rw [Try.results24]) (by simp) ?_
  intro c hc hk
  simp only [adEL, adE, adRL, adR, ownL, encL, sv, List.nil_append, List.append_nil, List.cons_append, List.length_cons, List.length_nil, pars, Nat.zero_add, Nat.reduceAdd] at hk ⊢
  refine AWP.seq ?_
  refine AWP.regS G_ok laws_markVisitS_DD hc (by kernel_rfl) (fun K hK => ?_); simp only [ea, gv, sv, reduceCtorEq, reduceIte, Nat.reduceBEq, Nat.reduceAdd, Nat.reduceEqDiff, Nat.reduceLT, Nat.reduceLeDiff, Nat.reduceMul, Nat.reduceSub, BEq.rfl, beq_self_eq_true, Int.reduceToNat]
  first | refine hK _ ?_ | refine ⟨by (first | trivial | omega | (simp only [ob, ln, bdv, sv] at *; omega) | ((try clear hK K); (repeat' first | apply And.intro | intro _) <;> first | trivial | omega | assumption | solve_by_elim | (apply bd_getD <;> first | assumption | decide) | (apply bd_subL <;> first | assumption | decide) | (simp only [ob, ln, bdv, sv] at *; first | omega | assumption | (simp_all; done) | grind))), hK _ ?_⟩
  clear hK K
  refine AWP.seq ?_
  refine AWP.seq ?_
  refine AWP.regS G_ok laws_markVisitS_DD hc (by kernel_rfl) (fun K hK => ?_); simp only [ea, gv, sv, reduceCtorEq, reduceIte, Nat.reduceBEq, Nat.reduceAdd, Nat.reduceEqDiff, Nat.reduceLT, Nat.reduceLeDiff, Nat.reduceMul, Nat.reduceSub, BEq.rfl, beq_self_eq_true, Int.reduceToNat]
  first | refine hK _ ?_ | refine ⟨by (first | trivial | omega | (simp only [ob, ln, bdv, sv] at *; omega) | ((try clear hK K); (repeat' first | apply And.intro | intro _) <;> first | trivial | omega | assumption | solve_by_elim | (apply bd_getD <;> first | assumption | decide) | (apply bd_subL <;> first | assumption | decide) | (simp only [ob, ln, bdv, sv] at *; first | omega | assumption | (simp_all; done) | grind))), hK _ ?_⟩
  clear hK K
  refine AWP.block ?_
  generalize hz1 : loopR (laws_markVisitS_b1 a0 a1) (a0.length - 0) 0 (a1, a0) = z1 at hR
  refine AWP.range (laws_markVisitS_b1 a0 a1) (fun i1 s1 => ⟨[(0, .ref 0 3 0 s1.2.length), (1, .int .i64 s1.1), (5, .int .i64 (i1 : Int))], [.arr 83 3 s1.2.length (fun j => eVisit (s1.2.getD j default))]⟩) (fun i1 s1 => s1.2.length = a0.length) (a0.length) 0 (a1, a0) [0] hz1 (by (first | trivial | omega | (simp only [ob, ln, bdv, sv] at *; omega) | ((try clear hK K); (repeat' first | apply And.intro | intro _) <;> first | trivial | omega | assumption | solve_by_elim | (apply bd_getD <;> first | assumption | decide) | (apply bd_subL <;> first | assumption | decide) | (simp only [ob, ln, bdv, sv] at *; first | omega | assumption | (simp_all; done) | grind)))) (by (first | trivial | (and_intros <;> simp only [ln] <;> omega) | (and_intros <;> simp only [ob, ln] at * <;> omega) | (and_intros <;> first | trivial | omega | assumption | (apply bd_set <;> first | assumption | (apply bd_getD <;> first | assumption | decide)) | (apply bd_app <;> first | assumption | (apply bd_getD <;> first | assumption | decide)) | (simp only [ob, ln, bdv, sv] at *; omega) | (simp; done)))) (by (simp only [si, ea, gv, sv, hk, reduceCtorEq, reduceIte, Nat.reduceBEq, Nat.reduceAdd, Nat.reduceEqDiff, Nat.reduceLT, Nat.reduceLeDiff, Nat.reduceMul, Nat.reduceSub, BEq.rfl, beq_self_eq_true, Int.reduceToNat]; first | done | trivial | (and_intros <;> first | rfl | trivial | omega | (rw [IntKind.wrap_i64]; omega) | (simp only [ln]; done) | (simp only [ob, ln, bdv, sv] at *; first | omega | grind) | (left; intro j hj; simp only [pw, Bool.cond_eq_ite, Bool.and_eq_true, decide_eq_true_eq]; (repeat' split) <;> simp [putL, NoBorL, NoBor]) | (intro j hj; simp only [pw, Bool.cond_eq_ite, Bool.and_eq_true, decide_eq_true_eq]; (try rw [subL_getD _ _ _ _ (by first | assumption | omega)]); (try rw [clearL_getD _ _ _ _ (by first | omega | (simp only [ob, ln, bdv] at *; omega))]); (repeat' split) <;> first | rfl | omega | exact simOL_refl _ | (simp_all; done) | (simp_all; rfl) | (simp_all; omega) | (simp_all; exact simOL_refl _) | (simp [putL, NoBorL, NoBor]; done))))) ?_
  clear hz1
  intro i1 s1 hi1 hW1 hz1
  refine AWP.seq ?_
  refine AWP.seq ?_
  refine AWP.regS G_ok laws_markVisitS_DD hc (by kernel_rfl) (fun K hK => ?_); simp only [ea, gv, sv, reduceCtorEq, reduceIte, Nat.reduceBEq, Nat.reduceAdd, Nat.reduceEqDiff, Nat.reduceLT, Nat.reduceLeDiff, Nat.reduceMul, Nat.reduceSub, BEq.rfl, beq_self_eq_true, Int.reduceToNat]
  first | refine hK _ ?_ | refine ⟨by (first | trivial | omega | (simp only [ob, ln, bdv, sv] at *; omega) | ((try clear hK K); (repeat' first | apply And.intro | intro _) <;> first | trivial | omega | assumption | solve_by_elim | (apply bd_getD <;> first | assumption | decide) | (apply bd_subL <;> first | assumption | decide) | (simp only [ob, ln, bdv, sv] at *; first | omega | assumption | (simp_all; done) | grind))), hK _ ?_⟩
  clear hK K
  refine AWP.cond rfl (fun hb => ?_) (fun hb => ?_)
  · have hlt1 : i1 < a0.length := by (first | trivial | omega | (simp only [ob, ln, bdv, sv] at *; omega) | ((try clear hK K); (repeat' first | apply And.intro | intro _) <;> first | trivial | omega | assumption | solve_by_elim | (apply bd_getD <;> first | assumption | decide) | (apply bd_subL <;> first | assumption | decide) | (simp only [ob, ln, bdv, sv] at *; first | omega | assumption | (simp_all; done) | grind)))
    rw [loopR_lt hlt1] at hz1; simp only [laws_markVisitS_b1] at hz1
    refine AWP.skip ?_
    refine AWP.seq ?_
    refine AWP.block ?_
    refine AWP.seq ?_
    refine AWP.regS G_ok laws_markVisitS_DD hc (by kernel_rfl) (fun K hK => ?_); simp only [ea, gv, sv, reduceCtorEq, reduceIte, Nat.reduceBEq, Nat.reduceAdd, Nat.reduceEqDiff, Nat.reduceLT, Nat.reduceLeDiff, Nat.reduceMul, Nat.reduceSub, BEq.rfl, beq_self_eq_true, Int.reduceToNat]
    first | refine hK _ ?_ | refine ⟨by (first | trivial | omega | (simp only [ob, ln, bdv, sv] at *; omega) | ((try clear hK K); (repeat' first | apply And.intro | intro _) <;> first | trivial | omega | assumption | solve_by_elim | (apply bd_getD <;> first | assumption | decide) | (apply bd_subL <;> first | assumption | decide) | (simp only [ob, ln, bdv, sv] at *; first | omega | assumption | (simp_all; done) | grind))), hK _ ?_⟩
    clear hK K
    refine AWP.seq ?_
    refine AWP.regS G_ok laws_markVisitS_DD hc (by kernel_rfl) (fun K hK => ?_); simp only [ea, gv, sv, reduceCtorEq, reduceIte, Nat.reduceBEq, Nat.reduceAdd, Nat.reduceEqDiff, Nat.reduceLT, Nat.reduceLeDiff, Nat.reduceMul, Nat.reduceSub, BEq.rfl, beq_self_eq_true, Int.reduceToNat]
    first | refine hK _ ?_ | refine ⟨by (first | trivial | omega | (simp only [ob, ln, bdv, sv] at *; omega) | ((try clear hK K); (repeat' first | apply And.intro | intro _) <;> first | trivial | omega | assumption | solve_by_elim | (apply bd_getD <;> first | assumption | decide) | (apply bd_subL <;> first | assumption | decide) | (simp only [ob, ln, bdv, sv] at *; first | omega | assumption | (simp_all; done) | grind))), hK _ ?_⟩
    clear hK K
    refine AWP.seq ?_
    refine AWP.regS G_ok laws_markVisitS_DD hc (by kernel_rfl) (fun K hK => ?_); simp only [ea, gv, sv, reduceCtorEq, reduceIte, Nat.reduceBEq, Nat.reduceAdd, Nat.reduceEqDiff, Nat.reduceLT, Nat.reduceLeDiff, Nat.reduceMul, Nat.reduceSub, BEq.rfl, beq_self_eq_true, Int.reduceToNat]
    first | refine hK _ ?_ | refine ⟨by (first | trivial | omega | (simp only [ob, ln, bdv, sv] at *; omega) | ((try clear hK K); (repeat' first | apply And.intro | intro _) <;> first | trivial | omega | assumption | solve_by_elim | (apply bd_getD <;> first | assumption | decide) | (apply bd_subL <;> first | assumption | decide) | (simp only [ob, ln, bdv, sv] at *; first | omega | assumption | (simp_all; done) | grind))), hK _ ?_⟩
    clear hK K
    refine AWP.seq ?_
    refine AWP.regS G_ok laws_markVisitS_DD hc (by kernel_rfl) (fun K hK => ?_); simp only [ea, gv, sv, reduceCtorEq, reduceIte, Nat.reduceBEq, Nat.reduceAdd, Nat.reduceEqDiff, Nat.reduceLT, Nat.reduceLeDiff, Nat.reduceMul, Nat.reduceSub, BEq.rfl, beq_self_eq_true, Int.reduceToNat]
    first | refine hK _ ?_ | refine ⟨by (first | trivial | omega | (simp only [ob, ln, bdv, sv] at *; omega) | ((try clear hK K); (repeat' first | apply And.intro | intro _) <;> first | trivial | omega | assumption | solve_by_elim | (apply bd_getD <;> first | assumption | decide) | (apply bd_subL <;> first | assumption | decide) | (simp only [ob, ln, bdv, sv] at *; first | omega | assumption | (simp_all; done) | grind))), hK _ ?_⟩
    clear hK K
    refine AWP.seq ?_
    refine AWP.regS G_ok laws_markVisitS_DD hc (by kernel_rfl) (fun K hK => ?_); simp only [ea, gv, sv, reduceCtorEq, reduceIte, Nat.reduceBEq, Nat.reduceAdd, Nat.reduceEqDiff, Nat.reduceLT, Nat.reduceLeDiff, Nat.reduceMul, Nat.reduceSub, BEq.rfl, beq_self_eq_true, Int.reduceToNat]
    first | refine hK _ ?_ | refine ⟨by (first | trivial | omega | (simp only [ob, ln, bdv, sv] at *; omega) | ((try clear hK K); (repeat' first | apply And.intro | intro _) <;> first | trivial | omega | assumption | solve_by_elim | (apply bd_getD <;> first | assumption | decide) | (apply bd_subL <;> first | assumption | decide) | (simp only [ob, ln, bdv, sv] at *; first | omega | assumption | (simp_all; done) | grind))), hK _ ?_⟩
    clear hK K
    refine AWP.regS G_ok laws_markVisitS_DD hc (by kernel_rfl) (fun K hK => ?_); simp only [ea, gv, sv, reduceCtorEq, reduceIte, Nat.reduceBEq, Nat.reduceAdd, Nat.reduceEqDiff, Nat.reduceLT, Nat.reduceLeDiff, Nat.reduceMul, Nat.reduceSub, BEq.rfl, beq_self_eq_true, Int.reduceToNat]
    first | refine hK _ ?_ | refine ⟨by (first | trivial | omega | (simp only [ob, ln, bdv, sv] at *; omega) | ((try clear hK K); (repeat' first | apply And.intro | intro _) <;> first | trivial | omega | assumption | solve_by_elim | (apply bd_getD <;> first | assumption | decide) | (apply bd_subL <;> first | assumption | decide) | (simp only [ob, ln, bdv, sv] at *; first | omega | assumption | (simp_all; done) | grind))), hK _ ?_⟩
    clear hK K
    refine AWP.regS G_ok laws_markVisitS_DD hc (by kernel_rfl) (fun K hK => ?_); simp only [ea, gv, sv, reduceCtorEq, reduceIte, Nat.reduceBEq, Nat.reduceAdd, Nat.reduceEqDiff, Nat.reduceLT, Nat.reduceLeDiff, Nat.reduceMul, Nat.reduceSub, BEq.rfl, beq_self_eq_true, Int.reduceToNat]
    first | refine hK _ ?_ | refine ⟨by (first | trivial | omega | (simp only [ob, ln, bdv, sv] at *; omega) | ((try clear hK K); (repeat' first | apply And.intro | intro _) <;> first | trivial | omega | assumption | solve_by_elim | (apply bd_getD <;> first | assumption | decide) | (apply bd_subL <;> first | assumption | decide) | (simp only [ob, ln, bdv, sv] at *; first | omega | assumption | (simp_all; done) | grind))), hK _ ?_⟩
    clear hK K
    exact ⟨_, [0], hlt1, by (first | trivial | (and_intros <;> simp only [ln] <;> omega) | (and_intros <;> simp only [ob, ln] at * <;> omega) | (and_intros <;> first | trivial | omega | assumption | (apply bd_set <;> first | assumption | (apply bd_getD <;> first | assumption | decide)) | (apply bd_app <;> first | assumption | (apply bd_getD <;> first | assumption | decide)) | (simp only [ob, ln, bdv, sv] at *; omega) | (simp; done))), hz1, by (simp only [si, ea, gv, sv, hk, reduceCtorEq, reduceIte, Nat.reduceBEq, Nat.reduceAdd, Nat.reduceEqDiff, Nat.reduceLT, Nat.reduceLeDiff, Nat.reduceMul, Nat.reduceSub, BEq.rfl, beq_self_eq_true, Int.reduceToNat]; first | done | trivial | (and_intros <;> first | rfl | trivial | omega | (rw [IntKind.wrap_i64]; omega) | (simp only [ln]; done) | (simp only [ob, ln, bdv, sv] at *; first | omega | grind) | (left; intro j hj; simp only [pw, Bool.cond_eq_ite, Bool.and_eq_true, decide_eq_true_eq]; (repeat' split) <;> simp [putL, NoBorL, NoBor]) | (intro j hj; simp only [pw, Bool.cond_eq_ite, Bool.and_eq_true, decide_eq_true_eq]; (try rw [subL_getD _ _ _ _ (by first | assumption | omega)]); (try rw [clearL_getD _ _ _ _ (by first | omega | (simp only [ob, ln, bdv] at *; omega))]); (repeat' split) <;> first | rfl | omega | exact simOL_refl _ | (simp_all; done) | (simp_all; rfl) | (simp_all; omega) | (simp_all; exact simOL_refl _) | (simp [putL, NoBorL, NoBor]; done))))⟩
  · obtain rfl : i1 = a0.length := by (first | trivial | omega | (simp only [ob, ln, bdv, sv] at *; omega) | ((try clear hK K); (repeat' first | apply And.intro | intro _) <;> first | trivial | omega | assumption | solve_by_elim | (apply bd_getD <;> first | assumption | decide) | (apply bd_subL <;> first | assumption | decide) | (simp only [ob, ln, bdv, sv] at *; first | omega | assumption | (simp_all; done) | grind)))
    rw [loopR_ge (Nat.le_refl _)] at hz1; subst hz1; dsimp only at hR
    refine AWP.exit ?_; refine exitTo_here ?_
    refine AWP.seq ?_
    refine AWP.regS G_ok laws_markVisitS_DD hc (by kernel_rfl) (fun K hK => ?_); simp only [ea, gv, sv, reduceCtorEq, reduceIte, Nat.reduceBEq, Nat.reduceAdd, Nat.reduceEqDiff, Nat.reduceLT, Nat.reduceLeDiff, Nat.reduceMul, Nat.reduceSub, BEq.rfl, beq_self_eq_true, Int.reduceToNat]
    first | refine hK _ ?_ | refine ⟨by (first | trivial | omega | (simp only [ob, ln, bdv, sv] at *; omega) | ((try clear hK K); (repeat' first | apply And.intro | intro _) <;> first | trivial | omega | assumption | solve_by_elim | (apply bd_getD <;> first | assumption | decide) | (apply bd_subL <;> first | assumption | decide) | (simp only [ob, ln, bdv, sv] at *; first | omega | assumption | (simp_all; done) | grind))), hK _ ?_⟩
    clear hK K
    refine AWP.ret ?_
    subst hR
    (simp only [en, si, ea, gv, sv, hk, reduceCtorEq, reduceIte, Nat.reduceBEq, Nat.reduceAdd, Nat.reduceEqDiff, Nat.reduceLT, Nat.reduceLeDiff, Nat.reduceMul, Nat.reduceSub, BEq.rfl, beq_self_eq_true, Int.reduceToNat]; first | done | trivial | (and_intros <;> first | rfl | trivial | omega | (rw [IntKind.wrap_i64]; omega) | (simp only [ln]; done) | (simp only [ob, ln, bdv, sv] at *; first | omega | grind) | (left; intro j hj; simp only [pw, Bool.cond_eq_ite, Bool.and_eq_true, decide_eq_true_eq]; (repeat' split) <;> simp [putL, NoBorL, NoBor]) | (intro j hj; simp only [pw, Bool.cond_eq_ite, Bool.and_eq_true, decide_eq_true_eq]; (try rw [subL_getD _ _ _ _ (by first | assumption | omega)]); (try rw [clearL_getD _ _ _ _ (by first | omega | (simp only [ob, ln, bdv] at *; omega))]); (repeat' split) <;> first | rfl | omega | exact simOL_refl _ | (simp_all; done) | (simp_all; rfl) | (simp_all; omega) | (simp_all; exact simOL_refl _) | (simp [putL, NoBorL, NoBor]; done))))

def D_laws_markVisitS : List AV → Option (AV × List AV × List Prop)
  | [x0, x1] => some (.int .i64 ((laws_markVisitS (rdL dVisit x0) (rdI x1)).1), [(ownL 83 3 eVisit ((laws_markVisitS (rdL dVisit x0) (rdI x1)).2)), .any], [wO 83 3 eVisit dVisit x0, wI .i64 x1, (rdL dVisit x0).length < 1099511627776])
  | _ => none
theorem D_laws_markVisitS_ok : OkM Try.prog 24 D_laws_markVisitS := by
  intro xs r outs ob h ho
  unfold D_laws_markVisitS at h
  split at h
  · simp only [Option.some.injEq, Prod.mk.injEq] at h
    obtain ⟨rfl, rfl, rfl⟩ := h
    obtain ⟨h0, h1, hb0, _⟩ := ho
    exact DenM.sim (laws_markVisitS_den _ _ hb0) (simOL_cons (wO_sim h0) <| simOL_cons (wI_sim h1).1 <| trivial)
  · cases h
end Go.Ab

namespace Go.Ab
open Go Go.Proofs
theorem laws_markVisitS_len (a : List Visit) (k : Int) : (laws_markVisitS a k).2.length = a.length := by
  unfold laws_markVisitS
  obtain ⟨t, h1, h2⟩ := loopR_total (b := laws_markVisitS_b1 a k) (fun _ s => s.2.length = a.length) (k := a.length - 0) (i := 0) (s := (k, a)) rfl (by
    intro j u _ _ h
    exact ⟨_, rfl, by simpa using h⟩)
  rw [h1]
  exact h2
theorem laws_markVisitS_sub (a : List Visit) (k : Int) : subL (laws_markVisitS a k).2 0 a.length = (laws_markVisitS a k).2 := by
  rw [← laws_markVisitS_len a k]; exact subL_all _
end Go.Ab

namespace Go.Ab
open Go Go.Proofs
theorem laws_heldVisitS_DD : DOk Try.prog (DD []) := DD_nil _
def laws_heldVisitS_b1 (a0 : (List Visit)) (a1 : Int) (i1 : Nat) (s1 : Int) : Except (Int) (Int) :=
  (bif (((a0.getD i1 default).Aid) != s1) then .error (-1) else (bif (((a0.getD i1 default).Every) != (IntKind.wrap .i64 (s1 + 1))) then .error (-1) else (bif (((a0.getD i1 default).Last) != (IntKind.wrap .i64 ((IntKind.wrap .i64 (s1 + 1)) + 1))) then .error (-1) else .ok (IntKind.wrap .i64 ((IntKind.wrap .i64 ((IntKind.wrap .i64 (s1 + 1)) + 1)) + 1)))))

def laws_heldVisitS (a0 : (List Visit)) (a1 : Int) : Int :=
  (match loopR (laws_heldVisitS_b1 a0 a1) (a0.length - 0) 0 a1 with | .error e => e | .ok s1 => s1)

theorem laws_heldVisitS_den (a0 : (List Visit)) (a1 : Int) (hb0 : a0.length < 1099511627776) : Den Try.prog 25 [encL 3 eVisit a0, .int .i64 a1] (.int .i64 (laws_heldVisitS a0 a1)) := by
  generalize hR : laws_heldVisitS a0 a1 = r
  unfold laws_heldVisitS at hR
  refine den_intro G_ok Try.func25 (by kernel_rfl) rfl Try.ntmps25 (by rw [Try.results25]) (by simp) rfl ?_
  intro c hc hk
  simp only [pars, Nat.zero_add]
  refine AWP.seq ?_
  refine AWP.regS G_ok laws_heldVisitS_DD hc (by kernel_rfl) (fun K hK => ?_); simp only [ea, gv, sv, reduceCtorEq, reduceIte, Nat.reduceBEq, Nat.reduceAdd, Nat.reduceEqDiff, Nat.reduceLT, Nat.reduceLeDiff, Nat.reduceMul, Nat.reduceSub, BEq.rfl, beq_self_eq_true, Int.reduceToNat]
  first | refine hK _ ?_ | refine ⟨by (first | trivial | omega | (simp only [ob, ln, bdv, sv] at *; omega) | ((try clear hK K); (repeat' first | apply And.intro | intro _) <;> first | trivial | omega | assumption | solve_by_elim | (apply bd_getD <;> first | assumption | decide) | (apply bd_subL <;> first | assumption | decide) | (simp only [ob, ln, bdv, sv] at *; first | omega | assumption | (simp_all; done) | grind))), hK _ ?_⟩
  clear hK K
  refine AWP.seq ?_
  refine AWP.seq ?_
  refine AWP.regS G_ok laws_heldVisitS_DD hc (by kernel_rfl) (fun K hK => ?_); simp only [ea, gv, sv, reduceCtorEq, reduceIte, Nat.reduceBEq, Nat.reduceAdd, Nat.reduceEqDiff, Nat.reduceLT, Nat.reduceLeDiff, Nat.reduceMul, Nat.reduceSub, BEq.rfl, beq_self_eq_true, Int.reduceToNat]
  first | refine hK _ ?_ | refine ⟨by (first | trivial | omega | (simp only [ob, ln, bdv, sv] at *; omega) | ((try clear hK K); (repeat' first | apply And.intro | intro _) <;> first | trivial | omega | assumption | solve_by_elim | (apply bd_getD <;> first | assumption | decide) | (apply bd_subL <;> first | assumption | decide) | (simp only [ob, ln, bdv, sv] at *; first | omega | assumption | (simp_all; done) | grind))), hK _ ?_⟩
  clear hK K
  refine AWP.block ?_
  generalize hz1 : loopR (laws_heldVisitS_b1 a0 a1) (a0.length - 0) 0 a1 = z1 at hR
  refine AWP.range (laws_heldVisitS_b1 a0 a1) (fun i1 s1 => ⟨[(0, encL 3 eVisit a0), (1, .int .i64 s1), (5, .int .i64 (i1 : Int))], []⟩) (fun i1 s1 => True) (a0.length) 0 a1 [] hz1 (by (first | trivial | omega | (simp only [ob, ln, bdv, sv] at *; omega) | ((try clear hK K); (repeat' first | apply And.intro | intro _) <;> first | trivial | omega | assumption | solve_by_elim | (apply bd_getD <;> first | assumption | decide) | (apply bd_subL <;> first | assumption | decide) | (simp only [ob, ln, bdv, sv] at *; first | omega | assumption | (simp_all; done) | grind)))) (by (first | trivial | (and_intros <;> simp only [ln] <;> omega) | (and_intros <;> simp only [ob, ln] at * <;> omega) | (and_intros <;> first | trivial | omega | assumption | (apply bd_set <;> first | assumption | (apply bd_getD <;> first | assumption | decide)) | (apply bd_app <;> first | assumption | (apply bd_getD <;> first | assumption | decide)) | (simp only [ob, ln, bdv, sv] at *; omega) | (simp; done)))) (by (simp only [si, ea, gv, sv, hk, reduceCtorEq, reduceIte, Nat.reduceBEq, Nat.reduceAdd, Nat.reduceEqDiff, Nat.reduceLT, Nat.reduceLeDiff, Nat.reduceMul, Nat.reduceSub, BEq.rfl, beq_self_eq_true, Int.reduceToNat]; first | done | trivial | (and_intros <;> first | rfl | trivial | omega | (rw [IntKind.wrap_i64]; omega) | (simp only [ln]; done) | (simp only [ob, ln, bdv, sv] at *; first | omega | grind) | (left; intro j hj; simp only [pw, Bool.cond_eq_ite, Bool.and_eq_true, decide_eq_true_eq]; (repeat' split) <;> simp [putL, NoBorL, NoBor]) | (intro j hj; simp only [pw, Bool.cond_eq_ite, Bool.and_eq_true, decide_eq_true_eq]; (try rw [subL_getD _ _ _ _ (by first | assumption | omega)]); (try rw [clearL_getD _ _ _ _ (by first | omega | (simp only [ob, ln, bdv] at *; omega))]); (repeat' split) <;> first | rfl | omega | exact simOL_refl _ | (simp_all; done) | (simp_all; rfl) | (simp_all; omega) | (simp_all; exact simOL_refl _) | (simp [putL, NoBorL, NoBor]; done))))) ?_
  clear hz1
  intro i1 s1 hi1 hW1 hz1
  refine AWP.seq ?_
  refine AWP.seq ?_
  refine AWP.regS G_ok laws_heldVisitS_DD hc (by kernel_rfl) (fun K hK => ?_); simp only [ea, gv, sv, reduceCtorEq, reduceIte, Nat.reduceBEq, Nat.reduceAdd, Nat.reduceEqDiff, Nat.reduceLT, Nat.reduceLeDiff, Nat.reduceMul, Nat.reduceSub, BEq.rfl, beq_self_eq_true, Int.reduceToNat]
  first | refine hK _ ?_ | refine ⟨by (first | trivial | omega | (simp only [ob, ln, bdv, sv] at *; omega) | ((try clear hK K); (repeat' first | apply And.intro | intro _) <;> first | trivial | omega | assumption | solve_by_elim | (apply bd_getD <;> first | assumption | decide) | (apply bd_subL <;> first | assumption | decide) | (simp only [ob, ln, bdv, sv] at *; first | omega | assumption | (simp_all; done) | grind))), hK _ ?_⟩
  clear hK K
  refine AWP.cond rfl (fun hb => ?_) (fun hb => ?_)
  · have hlt1 : i1 < a0.length := by (first | trivial | omega | (simp only [ob, ln, bdv, sv] at *; omega) | ((try clear hK K); (repeat' first | apply And.intro | intro _) <;> first | trivial | omega | assumption | solve_by_elim | (apply bd_getD <;> first | assumption | decide) | (apply bd_subL <;> first | assumption | decide) | (simp only [ob, ln, bdv, sv] at *; first | omega | assumption | (simp_all; done) | grind)))
    rw [loopR_lt hlt1] at hz1; simp only [laws_heldVisitS_b1] at hz1
    refine AWP.skip ?_
    refine AWP.seq ?_
    refine AWP.block ?_
    refine AWP.seq ?_
    refine AWP.seq ?_
    refine AWP.regS G_ok laws_heldVisitS_DD hc (by kernel_rfl) (fun K hK => ?_); simp only [ea, gv, sv, reduceCtorEq, reduceIte, Nat.reduceBEq, Nat.reduceAdd, Nat.reduceEqDiff, Nat.reduceLT, Nat.reduceLeDiff, Nat.reduceMul, Nat.reduceSub, BEq.rfl, beq_self_eq_true, Int.reduceToNat]
    first | refine hK _ ?_ | refine ⟨by (first | trivial | omega | (simp only [ob, ln, bdv, sv] at *; omega) | ((try clear hK K); (repeat' first | apply And.intro | intro _) <;> first | trivial | omega | assumption | solve_by_elim | (apply bd_getD <;> first | assumption | decide) | (apply bd_subL <;> first | assumption | decide) | (simp only [ob, ln, bdv, sv] at *; first | omega | assumption | (simp_all; done) | grind))), hK _ ?_⟩
    clear hK K
    refine AWP.cond rfl (fun hb => ?_) (fun hb => ?_)
    · first | simp only [hb, cond_true] at hz1 | (simp only [*] at hb; simp only [hb, cond_true] at hz1)
      refine AWP.seq ?_
      refine AWP.regS G_ok laws_heldVisitS_DD hc (by kernel_rfl) (fun K hK => ?_); simp only [ea, gv, sv, reduceCtorEq, reduceIte, Nat.reduceBEq, Nat.reduceAdd, Nat.reduceEqDiff, Nat.reduceLT, Nat.reduceLeDiff, Nat.reduceMul, Nat.reduceSub, BEq.rfl, beq_self_eq_true, Int.reduceToNat]
      first | refine hK _ ?_ | refine ⟨by (first | trivial | omega | (simp only [ob, ln, bdv, sv] at *; omega) | ((try clear hK K); (repeat' first | apply And.intro | intro _) <;> first | trivial | omega | assumption | solve_by_elim | (apply bd_getD <;> first | assumption | decide) | (apply bd_subL <;> first | assumption | decide) | (simp only [ob, ln, bdv, sv] at *; first | omega | assumption | (simp_all; done) | grind))), hK _ ?_⟩
      clear hK K
      refine AWP.ret ?_
      subst hz1
      dsimp only at hR
      subst hR
      (simp only [en, si, ea, gv, sv, hk, reduceCtorEq, reduceIte, Nat.reduceBEq, Nat.reduceAdd, Nat.reduceEqDiff, Nat.reduceLT, Nat.reduceLeDiff, Nat.reduceMul, Nat.reduceSub, BEq.rfl, beq_self_eq_true, Int.reduceToNat]; first | done | trivial | (and_intros <;> first | rfl | trivial | omega | (rw [IntKind.wrap_i64]; omega) | (simp only [ln]; done) | (simp only [ob, ln, bdv, sv] at *; first | omega | grind) | (left; intro j hj; simp only [pw, Bool.cond_eq_ite, Bool.and_eq_true, decide_eq_true_eq]; (repeat' split) <;> simp [putL, NoBorL, NoBor]) | (intro j hj; simp only [pw, Bool.cond_eq_ite, Bool.and_eq_true, decide_eq_true_eq]; (try rw [subL_getD _ _ _ _ (by first | assumption | omega)]); (try rw [clearL_getD _ _ _ _ (by first | omega | (simp only [ob, ln, bdv] at *; omega))]); (repeat' split) <;> first | rfl | omega | exact simOL_refl _ | (simp_all; done) | (simp_all; rfl) | (simp_all; omega) | (simp_all; exact simOL_refl _) | (simp [putL, NoBorL, NoBor]; done))))
    · first | simp only [hb, cond_false] at hz1 | (simp only [*] at hb; simp only [hb, cond_false] at hz1)
      refine AWP.skip ?_
      refine AWP.seq ?_
      refine AWP.regS G_ok laws_heldVisitS_DD hc (by kernel_rfl) (fun K hK => ?_); simp only [ea, gv, sv, reduceCtorEq, reduceIte, Nat.reduceBEq, Nat.reduceAdd, Nat.reduceEqDiff, Nat.reduceLT, Nat.reduceLeDiff, Nat.reduceMul, Nat.reduceSub, BEq.rfl, beq_self_eq_true, Int.reduceToNat]
      first | refine hK _ ?_ | refine ⟨by (first | trivial | omega | (simp only [ob, ln, bdv, sv] at *; omega) | ((try clear hK K); (repeat' first | apply And.intro | intro _) <;> first | trivial | omega | assumption | solve_by_elim | (apply bd_getD <;> first | assumption | decide) | (apply bd_subL <;> first | assumption | decide) | (simp only [ob, ln, bdv, sv] at *; first | omega | assumption | (simp_all; done) | grind))), hK _ ?_⟩
      clear hK K
      refine AWP.seq ?_
      refine AWP.seq ?_
      refine AWP.regS G_ok laws_heldVisitS_DD hc (by kernel_rfl) (fun K hK => ?_); simp only [ea, gv, sv, reduceCtorEq, reduceIte, Nat.reduceBEq, Nat.reduceAdd, Nat.reduceEqDiff, Nat.reduceLT, Nat.reduceLeDiff, Nat.reduceMul, Nat.reduceSub, BEq.rfl, beq_self_eq_true, Int.reduceToNat]
      first | refine hK _ ?_ | refine ⟨by (first | trivial | omega | (simp only [ob, ln, bdv, sv] at *; omega) | ((try clear hK K); (repeat' first | apply And.intro | intro _) <;> first | trivial | omega | assumption | solve_by_elim | (apply bd_getD <;> first | assumption | decide) | (apply bd_subL <;> first | assumption | decide) | (simp only [ob, ln, bdv, sv] at *; first | omega | assumption | (simp_all; done) | grind))), hK _ ?_⟩
      clear hK K
      refine AWP.cond rfl (fun hb => ?_) (fun hb => ?_)
      · first | simp only [hb, cond_true] at hz1 | (simp only [*] at hb; simp only [hb, cond_true] at hz1)
        refine AWP.seq ?_
        refine AWP.regS G_ok laws_heldVisitS_DD hc (by kernel_rfl) (fun K hK => ?_); simp only [ea, gv, sv, reduceCtorEq, reduceIte, Nat.reduceBEq, Nat.reduceAdd, Nat.reduceEqDiff, Nat.reduceLT, Nat.reduceLeDiff, Nat.reduceMul, Nat.reduceSub, BEq.rfl, beq_self_eq_true, Int.reduceToNat]
        first | refine hK _ ?_ | refine ⟨by (first | trivial | omega | (simp only [ob, ln, bdv, sv] at *; omega) | ((try clear hK K); (repeat' first | apply And.intro | intro _) <;> first | trivial | omega | assumption | solve_by_elim | (apply bd_getD <;> first | assumption | decide) | (apply bd_subL <;> first | assumption | decide) | (simp only [ob, ln, bdv, sv] at *; first | omega | assumption | (simp_all; done) | grind))), hK _ ?_⟩
        clear hK K
        refine AWP.ret ?_
        subst hz1
        dsimp only at hR
        subst hR
        (simp only [en, si, ea, gv, sv, hk, reduceCtorEq, reduceIte, Nat.reduceBEq, Nat.reduceAdd, Nat.reduceEqDiff, Nat.reduceLT, Nat.reduceLeDiff, Nat.reduceMul, Nat.reduceSub, BEq.rfl, beq_self_eq_true, Int.reduceToNat]; first | done | trivial | (and_intros <;> first | rfl | trivial | omega | (rw [IntKind.wrap_i64]; omega) | (simp only [ln]; done) | (simp only [ob, ln, bdv, sv] at *; first | omega | grind) | (left; intro j hj; simp only [pw, Bool.cond_eq_ite, Bool.and_eq_true, decide_eq_true_eq]; (repeat' split) <;> simp [putL, NoBorL, NoBor]) | (intro j hj; simp only [pw, Bool.cond_eq_ite, Bool.and_eq_true, decide_eq_true_eq]; (try rw [subL_getD _ _ _ _ (by first | assumption | omega)]); (try rw [clearL_getD _ _ _ _ (by first | omega | (simp only [ob, ln, bdv] at *; omega))]); (repeat' split) <;> first | rfl | omega | exact simOL_refl _ | (simp_all; done) | (simp_all; rfl) | (simp_all; omega) | (simp_all; exact simOL_refl _) | (simp [putL, NoBorL, NoBor]; done))))
      · first | simp only [hb, cond_false] at hz1 | (simp only [*] at hb; simp only [hb, cond_false] at hz1)
        refine AWP.skip ?_
        refine AWP.seq ?_
        refine AWP.regS G_ok laws_heldVisitS_DD hc (by kernel_rfl) (fun K hK => ?_); simp only [ea, gv, sv, reduceCtorEq, reduceIte, Nat.reduceBEq, Nat.reduceAdd, Nat.reduceEqDiff, Nat.reduceLT, Nat.reduceLeDiff, Nat.reduceMul, Nat.reduceSub, BEq.rfl, beq_self_eq_true, Int.reduceToNat]
        first | refine hK _ ?_ | refine ⟨by (first | trivial | omega | (simp only [ob, ln, bdv, sv] at *; omega) | ((try clear hK K); (repeat' first | apply And.intro | intro _) <;> first | trivial | omega | assumption | solve_by_elim | (apply bd_getD <;> first | assumption | decide) | (apply bd_subL <;> first | assumption | decide) | (simp only [ob, ln, bdv, sv] at *; first | omega | assumption | (simp_all; done) | grind))), hK _ ?_⟩
        clear hK K
        refine AWP.seq ?_
        refine AWP.seq ?_
        refine AWP.regS G_ok laws_heldVisitS_DD hc (by kernel_rfl) (fun K hK => ?_); simp only [ea, gv, sv, reduceCtorEq, reduceIte, Nat.reduceBEq, Nat.reduceAdd, Nat.reduceEqDiff, Nat.reduceLT, Nat.reduceLeDiff, Nat.reduceMul, Nat.reduceSub, BEq.rfl, beq_self_eq_true, Int.reduceToNat]
        first | refine hK _ ?_ | refine ⟨by (first | trivial | omega | (simp only [ob, ln, bdv, sv] at *; omega) | ((try clear hK K); (repeat' first | apply And.intro | intro _) <;> first | trivial | omega | assumption | solve_by_elim | (apply bd_getD <;> first | assumption | decide) | (apply bd_subL <;> first | assumption | decide) | (simp only [ob, ln, bdv, sv] at *; first | omega | assumption | (simp_all; done) | grind))), hK _ ?_⟩
        clear hK K
        refine AWP.cond rfl (fun hb => ?_) (fun hb => ?_)
        · first | simp only [hb, cond_true] at hz1 | (simp only [*] at hb; simp only [hb, cond_true] at hz1)
          refine AWP.seq ?_
          refine AWP.regS G_ok laws_heldVisitS_DD hc (by kernel_rfl) (fun K hK => ?_); simp only [ea, gv, sv, reduceCtorEq, reduceIte, Nat.reduceBEq, Nat.reduceAdd, Nat.reduceEqDiff, Nat.reduceLT, Nat.reduceLeDiff, Nat.reduceMul, Nat.reduceSub, BEq.rfl, beq_self_eq_true, Int.reduceToNat]
          first | refine hK _ ?_ | refine ⟨by (first | trivial | omega | (simp only [ob, ln, bdv, sv] at *; omega) | ((try clear hK K); (repeat' first | apply And.intro | intro _) <;> first | trivial | omega | assumption | solve_by_elim | (apply bd_getD <;> first | assumption | decide) | (apply bd_subL <;> first | assumption | decide) | (simp only [ob, ln, bdv, sv] at *; first | omega | assumption | (simp_all; done) | grind))), hK _ ?_⟩
          clear hK K
          refine AWP.ret ?_
          subst hz1
          dsimp only at hR
          subst hR
          (simp only [en, si, ea, gv, sv, hk, reduceCtorEq, reduceIte, Nat.reduceBEq, Nat.reduceAdd, Nat.reduceEqDiff, Nat.reduceLT, Nat.reduceLeDiff, Nat.reduceMul, Nat.reduceSub, BEq.rfl, beq_self_eq_true, Int.reduceToNat]; first | done | trivial | (and_intros <;> first | rfl | trivial | omega | (rw [IntKind.wrap_i64]; omega) | (simp only [ln]; done) | (simp only [ob, ln, bdv, sv] at *; first | omega | grind) | (left; intro j hj; simp only [pw, Bool.cond_eq_ite, Bool.and_eq_true, decide_eq_true_eq]; (repeat' split) <;> simp [putL, NoBorL, NoBor]) | (intro j hj; simp only [pw, Bool.cond_eq_ite, Bool.and_eq_true, decide_eq_true_eq]; (try rw [subL_getD _ _ _ _ (by first | assumption | omega)]); (try rw [clearL_getD _ _ _ _ (by first | omega | (simp only [ob, ln, bdv] at *; omega))]); (repeat' split) <;> first | rfl | omega | exact simOL_refl _ | (simp_all; done) | (simp_all; rfl) | (simp_all; omega) | (simp_all; exact simOL_refl _) | (simp [putL, NoBorL, NoBor]; done))))
        · first | simp only [hb, cond_false] at hz1 | (simp only [*] at hb; simp only [hb, cond_false] at hz1)
          refine AWP.skip ?_
          refine AWP.regS G_ok laws_heldVisitS_DD hc (by kernel_rfl) (fun K hK => ?_); simp only [ea, gv, sv, reduceCtorEq, reduceIte, Nat.reduceBEq, Nat.reduceAdd, Nat.reduceEqDiff, Nat.reduceLT, Nat.reduceLeDiff, Nat.reduceMul, Nat.reduceSub, BEq.rfl, beq_self_eq_true, Int.reduceToNat]
          first | refine hK _ ?_ | refine ⟨by (first | trivial | omega | (simp only [ob, ln, bdv, sv] at *; omega) | ((try clear hK K); (repeat' first | apply And.intro | intro _) <;> first | trivial | omega | assumption | solve_by_elim | (apply bd_getD <;> first | assumption | decide) | (apply bd_subL <;> first | assumption | decide) | (simp only [ob, ln, bdv, sv] at *; first | omega | assumption | (simp_all; done) | grind))), hK _ ?_⟩
          clear hK K
          refine AWP.regS G_ok laws_heldVisitS_DD hc (by kernel_rfl) (fun K hK => ?_); simp only [ea, gv, sv, reduceCtorEq, reduceIte, Nat.reduceBEq, Nat.reduceAdd, Nat.reduceEqDiff, Nat.reduceLT, Nat.reduceLeDiff, Nat.reduceMul, Nat.reduceSub, BEq.rfl, beq_self_eq_true, Int.reduceToNat]
          first | refine hK _ ?_ | refine ⟨by (first | trivial | omega | (simp only [ob, ln, bdv, sv] at *; omega) | ((try clear hK K); (repeat' first | apply And.intro | intro _) <;> first | trivial | omega | assumption | solve_by_elim | (apply bd_getD <;> first | assumption | decide) | (apply bd_subL <;> first | assumption | decide) | (simp only [ob, ln, bdv, sv] at *; first | omega | assumption | (simp_all; done) | grind))), hK _ ?_⟩
          clear hK K
          exact ⟨_, [], hlt1, by (first | trivial | (and_intros <;> simp only [ln] <;> omega) | (and_intros <;> simp only [ob, ln] at * <;> omega) | (and_intros <;> first | trivial | omega | assumption | (apply bd_set <;> first | assumption | (apply bd_getD <;> first | assumption | decide)) | (apply bd_app <;> first | assumption | (apply bd_getD <;> first | assumption | decide)) | (simp only [ob, ln, bdv, sv] at *; omega) | (simp; done))), hz1, by (simp only [si, ea, gv, sv, hk, reduceCtorEq, reduceIte, Nat.reduceBEq, Nat.reduceAdd, Nat.reduceEqDiff, Nat.reduceLT, Nat.reduceLeDiff, Nat.reduceMul, Nat.reduceSub, BEq.rfl, beq_self_eq_true, Int.reduceToNat]; first | done | trivial | (and_intros <;> first | rfl | trivial | omega | (rw [IntKind.wrap_i64]; omega) | (simp only [ln]; done) | (simp only [ob, ln, bdv, sv] at *; first | omega | grind) | (left; intro j hj; simp only [pw, Bool.cond_eq_ite, Bool.and_eq_true, decide_eq_true_eq]; (repeat' split) <;> simp [putL, NoBorL, NoBor]) | (intro j hj; simp only [pw, Bool.cond_eq_ite, Bool.and_eq_true, decide_eq_true_eq]; (try rw [subL_getD _ _ _ _ (by first | assumption | omega)]); (try rw [clearL_getD _ _ _ _ (by first | omega | (simp only [ob, ln, bdv] at *; omega))]); (repeat' split) <;> first | rfl | omega | exact simOL_refl _ | (simp_all; done) | (simp_all; rfl) | (simp_all; omega) | (simp_all; exact simOL_refl _) | (simp [putL, NoBorL, NoBor]; done))))⟩
  · obtain rfl : i1 = a0.length := by (first | trivial | omega | (simp only [ob, ln, bdv, sv] at *; omega) | ((try clear hK K); (repeat' first | apply And.intro | intro _) <;> first | trivial | omega | assumption | solve_by_elim | (apply bd_getD <;> first | assumption | decide) | (apply bd_subL <;> first | assumption | decide) | (simp only [ob, ln, bdv, sv] at *; first | omega | assumption | (simp_all; done) | grind)))
    rw [loopR_ge (Nat.le_refl _)] at hz1; subst hz1; dsimp only at hR
    refine AWP.exit ?_; refine exitTo_here ?_
    refine AWP.seq ?_
    refine AWP.regS G_ok laws_heldVisitS_DD hc (by kernel_rfl) (fun K hK => ?_); simp only [ea, gv, sv, reduceCtorEq, reduceIte, Nat.reduceBEq, Nat.reduceAdd, Nat.reduceEqDiff, Nat.reduceLT, Nat.reduceLeDiff, Nat.reduceMul, Nat.reduceSub, BEq.rfl, beq_self_eq_true, Int.reduceToNat]
    first | refine hK _ ?_ | refine ⟨by (first | trivial | omega | (simp only [ob, ln, bdv, sv] at *; omega) | ((try clear hK K); (repeat' first | apply And.intro | intro _) <;> first | trivial | omega | assumption | solve_by_elim | (apply bd_getD <;> first | assumption | decide) | (apply bd_subL <;> first | assumption | decide) | (simp only [ob, ln, bdv, sv] at *; first | omega | assumption | (simp_all; done) | grind))), hK _ ?_⟩
    clear hK K
    refine AWP.ret ?_
    subst hR
    (simp only [en, si, ea, gv, sv, hk, reduceCtorEq, reduceIte, Nat.reduceBEq, Nat.reduceAdd, Nat.reduceEqDiff, Nat.reduceLT, Nat.reduceLeDiff, Nat.reduceMul, Nat.reduceSub, BEq.rfl, beq_self_eq_true, Int.reduceToNat]; first | done | trivial | (and_intros <;> first | rfl | trivial | omega | (rw [IntKind.wrap_i64]; omega) | (simp only [ln]; done) | (simp only [ob, ln, bdv, sv] at *; first | omega | grind) | (left; intro j hj; simp only [pw, Bool.cond_eq_ite, Bool.and_eq_true, decide_eq_true_eq]; (repeat' split) <;> simp [putL, NoBorL, NoBor]) | (intro j hj; simp only [pw, Bool.cond_eq_ite, Bool.and_eq_true, decide_eq_true_eq]; (try rw [subL_getD _ _ _ _ (by first | assumption | omega)]); (try rw [clearL_getD _ _ _ _ (by first | omega | (simp only [ob, ln, bdv] at *; omega))]); (repeat' split) <;> first | rfl | omega | exact simOL_refl _ | (simp_all; done) | (simp_all; rfl) | (simp_all; omega) | (simp_all; exact simOL_refl _) | (simp [putL, NoBorL, NoBor]; done))))

def D_laws_heldVisitS : DF
  | [x0, x1] => some (.int .i64 (laws_heldVisitS (rdL dVisit x0) (rdI x1)), false, [wL 3 eVisit dVisit x0, wI .i64 x1, (rdL dVisit x0).length < 1099511627776])
  | _ => none
theorem D_laws_heldVisitS_ok : OkD Try.prog 25 D_laws_heldVisitS := by
  intro xs r z ob h ho
  unfold D_laws_heldVisitS at h
  split at h
  · simp only [Option.some.injEq, Prod.mk.injEq] at h
    obtain ⟨rfl, rfl, rfl⟩ := h
    obtain ⟨h0, h1, hb0, _⟩ := ho
    exact Den.sim (laws_heldVisitS_den _ _ hb0) (simOL_cons (wL_sim h0).1 <| simOL_cons (wI_sim h1).1 <| trivial) (noIdL_cons (wL_sim h0).2 <| noIdL_cons (wI_sim h1).2 <| rfl) rfl
  · cases h
end Go.Ab

namespace Go.Ab
open Go Go.Proofs
def mkVisit (v : Int) : Visit := ⟨v, v + 1, v + 2⟩
theorem laws_markVisitS_eq (a : List Visit) (k : Int) (h0 : 0 ≤ k) (h1 : k + 3 * a.length < 4611686018427387904) : laws_markVisitS a k = (k + 3 * a.length, (List.range a.length).map (fun j : Nat => mkVisit (k + 3 * j))) := by
  unfold laws_markVisitS
  obtain ⟨t, q1, q2, q3, q4⟩ := loopR_total (b := laws_markVisitS_b1 a k) (fun i s => s.1 = k + 3 * i ∧ s.2.length = a.length ∧ ∀ j, j < i → s.2.getD j default = mkVisit (k + 3 * j)) (k := a.length - 0) (i := 0) (s := (k, a)) ⟨by simp, rfl, by intro j hj; omega⟩ (by
    intro j u _ hj ⟨h2, h3, h4⟩
    refine ⟨_, rfl, ?_, ?_, ?_⟩
    · simp only [h2, IntKind.wrap_i64]; omega
    · simpa using h3
    · intro q hq
      simp only
      rw [lgetD_set]
      by_cases h : q = j
      · subst h
        rw [if_pos ⟨rfl, by omega⟩, h2]
        simp only [mkVisit, IntKind.wrap_i64, Visit.mk.injEq]
        and_intros <;> first | trivial | omega
      · rw [if_neg (fun hh => h hh.1)]
        exact h4 q (by omega))
  rw [q1]
  simp only [Nat.zero_add, Nat.sub_zero] at q2 q4
  simp only [q2]
  congr 1
  apply getD_ext
  · simpa using q3
  · intro i hi
    rw [q4 i (by omega)]
    simp [List.getD_eq_getElem?_getD]
    rw [List.getElem?_range (by omega)]
    rfl
theorem laws_heldVisitS_mark (a : List Visit) (h1 : a.length < 1099511627776) : laws_heldVisitS (laws_markVisitS a 1).2 1 = (laws_markVisitS a 1).1 ∧ ¬ (laws_markVisitS a 1).1 < 0 := by
  rw [laws_markVisitS_eq a 1 (by omega) (by omega)]
  refine ⟨?_, by simp only; omega⟩
  simp only
  unfold laws_heldVisitS
  obtain ⟨t, q1, q2⟩ := loopR_total (b := laws_heldVisitS_b1 ((List.range a.length).map (fun j : Nat => mkVisit (1 + 3 * j))) 1) (fun i s => s = 1 + 3 * (i : Int)) (k := ((List.range a.length).map (fun j : Nat => mkVisit (1 + 3 * j))).length - 0) (i := 0) (s := 1) (by simp) (by
    intro j u _ hj h2
    have hw1 : ∀ m : Int, 0 ≤ m → m < 9223372036854775800 → IntKind.wrap .i64 (m + 1) = m + 1 := by intro m _ _; rw [IntKind.wrap_i64]; omega
    have hj2 : j < a.length := by simpa using hj
    have hg : ((List.range a.length).map (fun j : Nat => mkVisit (1 + 3 * j))).getD j default = mkVisit (1 + 3 * j) := by
      simp [List.getD_eq_getElem?_getD, hj2]
    subst h2
    refine ⟨1 + 3 * ((j + 1 : Nat) : Int), ?_, rfl⟩
    simp only [laws_heldVisitS_b1]
    simp only [hg]
    simp only [mkVisit, IntKind.wrap_i64]
    simp only [Bool.cond_eq_ite, bne_iff_ne, ne_eq]
    rw [if_neg (by simp)]
    (repeat rw [if_neg (by omega)])
    rw [Except.ok.injEq]; omega)
  rw [q1]
  simp only [q2]
  simp
end Go.Ab
