/- A part of a proof: walks of functions and lemmas of our own. No conditions. -/
import Derived.Test.YtapfmnafakdhmaaTAi
import Derived.Test.YtapfmnafakdhmaaTAj
import Derived.Test.YtapfmnafakdhmaaTAh
import Derived.Deep.Slices
import Derived.Deep.Strs
import Derived.Lib.SmallJoins
import Derived.Test.YtapfmnafakdhmaaRows
set_option linter.unusedVariables false
set_option linter.unusedSimpArgs false
namespace Go.Ab
open Go Go.Proofs
theorem impl_MarkVisited_DD : DOk Try.prog (DD [(64, dP D_impl_visitCode), (65, dP D_impl_clone_Visit)]) := DD_cons D_impl_visitCode_ok.e <| DD_cons D_impl_clone_Visit_ok.e <| DD_nil _
def impl_MarkVisited (a0 : (List Visit)) (a1 : Int) (a2 : Int) : ((List Visit) × Int) :=
  (bif (((impl_visitCode a0 a1 a2).2) != 0) then ([], (impl_visitCode a0 a1 a2).2) else (bif decide (a2 < ((a0.getD (((impl_visitCode a0 a1 a2).1).toNat) default).Last)) then ([], 7) else ((impl_clone_Visit a0).set (((impl_visitCode a0 a1 a2).1).toNat) ({ Aid := ((impl_clone_Visit a0).getD (((impl_visitCode a0 a1 a2).1).toNat) default).Aid, Every := ((impl_clone_Visit a0).getD (((impl_visitCode a0 a1 a2).1).toNat) default).Every, Last := a2 : Visit }), 0)))

theorem impl_MarkVisited_den (a0 : (List Visit)) (a1 : Int) (a2 : Int) (hb0 : a0.length < 1099511627776) : Den Try.prog 22 [encL 3 eVisit a0, .int .i64 a1, .int .i64 a2] (.tup [ownL 83 3 eVisit ((impl_MarkVisited a0 a1 a2).1), .int .i64 ((impl_MarkVisited a0 a1 a2).2)]) := by
  generalize hR : impl_MarkVisited a0 a1 a2 = r
  unfold impl_MarkVisited at hR
  refine den_intro G_ok Try.func22 (by kernel_rfl) rfl Try.ntmps22 (by rw [Try.results22]) (by simp) rfl ?_
  intro c hc hk
  simp only [pars, Nat.zero_add]
  refine AWP.seq ?_
  refine AWP.regS G_ok impl_MarkVisited_DD hc (by kernel_rfl) (fun K hK => ?_); simp only [ea, gv, sv, D_impl_visitCode, D_impl_clone_Visit, reduceCtorEq, reduceIte, Nat.reduceBEq, Nat.reduceAdd, Nat.reduceEqDiff, Nat.reduceLT, Nat.reduceLeDiff, Nat.reduceMul, Nat.reduceSub, BEq.rfl, beq_self_eq_true, Int.reduceToNat]
  first | refine hK _ ?_ | refine ⟨by (first | trivial | omega | (simp only [ob, ln, bdv, impl_clone_Visit_id, sv] at *; omega) | ((try clear hK K); (repeat' first | apply And.intro | intro _) <;> first | trivial | omega | assumption | solve_by_elim | (apply bd_getD <;> first | assumption | decide) | (apply bd_subL <;> first | assumption | decide) | (simp only [ob, ln, bdv, impl_clone_Visit_id, sv] at *; first | omega | assumption | (simp_all; done) | grind [impl_visitCode_lt]))), hK _ ?_⟩
  clear hK K
  refine AWP.seq ?_
  refine AWP.regS G_ok impl_MarkVisited_DD hc (by kernel_rfl) (fun K hK => ?_); simp only [ea, gv, sv, D_impl_visitCode, D_impl_clone_Visit, reduceCtorEq, reduceIte, Nat.reduceBEq, Nat.reduceAdd, Nat.reduceEqDiff, Nat.reduceLT, Nat.reduceLeDiff, Nat.reduceMul, Nat.reduceSub, BEq.rfl, beq_self_eq_true, Int.reduceToNat]
  first | refine hK _ ?_ | refine ⟨by (first | trivial | omega | (simp only [ob, ln, bdv, impl_clone_Visit_id, sv] at *; omega) | ((try clear hK K); (repeat' first | apply And.intro | intro _) <;> first | trivial | omega | assumption | solve_by_elim | (apply bd_getD <;> first | assumption | decide) | (apply bd_subL <;> first | assumption | decide) | (simp only [ob, ln, bdv, impl_clone_Visit_id, sv] at *; first | omega | assumption | (simp_all; done) | grind [impl_visitCode_lt]))), hK _ ?_⟩
  clear hK K
  refine AWP.seq ?_
  refine AWP.seq ?_
  refine AWP.regS G_ok impl_MarkVisited_DD hc (by kernel_rfl) (fun K hK => ?_); simp only [ea, gv, sv, D_impl_visitCode, D_impl_clone_Visit, reduceCtorEq, reduceIte, Nat.reduceBEq, Nat.reduceAdd, Nat.reduceEqDiff, Nat.reduceLT, Nat.reduceLeDiff, Nat.reduceMul, Nat.reduceSub, BEq.rfl, beq_self_eq_true, Int.reduceToNat]
  first | refine hK _ ?_ | refine ⟨by (first | trivial | omega | (simp only [ob, ln, bdv, impl_clone_Visit_id, sv] at *; omega) | ((try clear hK K); (repeat' first | apply And.intro | intro _) <;> first | trivial | omega | assumption | solve_by_elim | (apply bd_getD <;> first | assumption | decide) | (apply bd_subL <;> first | assumption | decide) | (simp only [ob, ln, bdv, impl_clone_Visit_id, sv] at *; first | omega | assumption | (simp_all; done) | grind [impl_visitCode_lt]))), hK _ ?_⟩
  clear hK K
  refine AWP.cond rfl (fun hb => ?_) (fun hb => ?_)
  · first | simp only [hb, cond_true] at hR | (simp only [*] at hb; simp only [hb, cond_true] at hR)
    refine AWP.seq ?_
    refine AWP.regS G_ok impl_MarkVisited_DD hc (by kernel_rfl) (fun K hK => ?_); simp only [ea, gv, sv, D_impl_visitCode, D_impl_clone_Visit, reduceCtorEq, reduceIte, Nat.reduceBEq, Nat.reduceAdd, Nat.reduceEqDiff, Nat.reduceLT, Nat.reduceLeDiff, Nat.reduceMul, Nat.reduceSub, BEq.rfl, beq_self_eq_true, Int.reduceToNat]
    first | refine hK _ ?_ | refine ⟨by (first | trivial | omega | (simp only [ob, ln, bdv, impl_clone_Visit_id, sv] at *; omega) | ((try clear hK K); (repeat' first | apply And.intro | intro _) <;> first | trivial | omega | assumption | solve_by_elim | (apply bd_getD <;> first | assumption | decide) | (apply bd_subL <;> first | assumption | decide) | (simp only [ob, ln, bdv, impl_clone_Visit_id, sv] at *; first | omega | assumption | (simp_all; done) | grind [impl_visitCode_lt]))), hK _ ?_⟩
    clear hK K
    refine AWP.ret ?_
    subst hR
    (simp only [en, si, ea, gv, sv, hk, reduceCtorEq, reduceIte, Nat.reduceBEq, Nat.reduceAdd, Nat.reduceEqDiff, Nat.reduceLT, Nat.reduceLeDiff, Nat.reduceMul, Nat.reduceSub, BEq.rfl, beq_self_eq_true, Int.reduceToNat]; first | done | trivial | (and_intros <;> first | rfl | trivial | omega | (rw [IntKind.wrap_i64]; omega) | (simp only [ln]; done) | (simp only [ob, ln, bdv, impl_clone_Visit_id, sv] at *; first | omega | grind [impl_visitCode_lt]) | (left; intro j hj; simp only [pw, Bool.cond_eq_ite, Bool.and_eq_true, decide_eq_true_eq]; (repeat' split) <;> simp [putL, NoBorL, NoBor]) | (intro j hj; simp only [pw, Bool.cond_eq_ite, Bool.and_eq_true, decide_eq_true_eq]; (try rw [subL_getD _ _ _ _ (by first | assumption | omega)]); (try rw [clearL_getD _ _ _ _ (by first | omega | (simp only [ob, ln, bdv] at *; omega))]); (repeat' split) <;> first | rfl | omega | exact simOL_refl _ | (simp_all; done) | (simp_all; rfl) | (simp_all; omega) | (simp_all; exact simOL_refl _) | (simp [putL, NoBorL, NoBor]; done))))
  · first | simp only [hb, cond_false] at hR | (simp only [*] at hb; simp only [hb, cond_false] at hR)
    refine AWP.skip ?_
    refine AWP.seq ?_
    refine AWP.seq ?_
    refine AWP.regS G_ok impl_MarkVisited_DD hc (by kernel_rfl) (fun K hK => ?_); simp only [ea, gv, sv, D_impl_visitCode, D_impl_clone_Visit, reduceCtorEq, reduceIte, Nat.reduceBEq, Nat.reduceAdd, Nat.reduceEqDiff, Nat.reduceLT, Nat.reduceLeDiff, Nat.reduceMul, Nat.reduceSub, BEq.rfl, beq_self_eq_true, Int.reduceToNat]
    first | refine hK _ ?_ | refine ⟨by (first | trivial | omega | (simp only [ob, ln, bdv, impl_clone_Visit_id, sv] at *; omega) | ((try clear hK K); (repeat' first | apply And.intro | intro _) <;> first | trivial | omega | assumption | solve_by_elim | (apply bd_getD <;> first | assumption | decide) | (apply bd_subL <;> first | assumption | decide) | (simp only [ob, ln, bdv, impl_clone_Visit_id, sv] at *; first | omega | assumption | (simp_all; done) | grind [impl_visitCode_lt]))), hK _ ?_⟩
    clear hK K
    refine AWP.cond rfl (fun hb => ?_) (fun hb => ?_)
    · first | simp only [hb, cond_true] at hR | (simp only [*] at hb; simp only [hb, cond_true] at hR)
      refine AWP.seq ?_
      refine AWP.regS G_ok impl_MarkVisited_DD hc (by kernel_rfl) (fun K hK => ?_); simp only [ea, gv, sv, D_impl_visitCode, D_impl_clone_Visit, reduceCtorEq, reduceIte, Nat.reduceBEq, Nat.reduceAdd, Nat.reduceEqDiff, Nat.reduceLT, Nat.reduceLeDiff, Nat.reduceMul, Nat.reduceSub, BEq.rfl, beq_self_eq_true, Int.reduceToNat]
      first | refine hK _ ?_ | refine ⟨by (first | trivial | omega | (simp only [ob, ln, bdv, impl_clone_Visit_id, sv] at *; omega) | ((try clear hK K); (repeat' first | apply And.intro | intro _) <;> first | trivial | omega | assumption | solve_by_elim | (apply bd_getD <;> first | assumption | decide) | (apply bd_subL <;> first | assumption | decide) | (simp only [ob, ln, bdv, impl_clone_Visit_id, sv] at *; first | omega | assumption | (simp_all; done) | grind [impl_visitCode_lt]))), hK _ ?_⟩
      clear hK K
      refine AWP.ret ?_
      subst hR
      (simp only [en, si, ea, gv, sv, hk, reduceCtorEq, reduceIte, Nat.reduceBEq, Nat.reduceAdd, Nat.reduceEqDiff, Nat.reduceLT, Nat.reduceLeDiff, Nat.reduceMul, Nat.reduceSub, BEq.rfl, beq_self_eq_true, Int.reduceToNat]; first | done | trivial | (and_intros <;> first | rfl | trivial | omega | (rw [IntKind.wrap_i64]; omega) | (simp only [ln]; done) | (simp only [ob, ln, bdv, impl_clone_Visit_id, sv] at *; first | omega | grind [impl_visitCode_lt]) | (left; intro j hj; simp only [pw, Bool.cond_eq_ite, Bool.and_eq_true, decide_eq_true_eq]; (repeat' split) <;> simp [putL, NoBorL, NoBor]) | (intro j hj; simp only [pw, Bool.cond_eq_ite, Bool.and_eq_true, decide_eq_true_eq]; (try rw [subL_getD _ _ _ _ (by first | assumption | omega)]); (try rw [clearL_getD _ _ _ _ (by first | omega | (simp only [ob, ln, bdv] at *; omega))]); (repeat' split) <;> first | rfl | omega | exact simOL_refl _ | (simp_all; done) | (simp_all; rfl) | (simp_all; omega) | (simp_all; exact simOL_refl _) | (simp [putL, NoBorL, NoBor]; done))))
    · first | simp only [hb, cond_false] at hR | (simp only [*] at hb; simp only [hb, cond_false] at hR)
      refine AWP.skip ?_
      refine AWP.seq ?_
      refine AWP.regS G_ok impl_MarkVisited_DD hc (by kernel_rfl) (fun K hK => ?_); simp only [ea, gv, sv, D_impl_visitCode, D_impl_clone_Visit, reduceCtorEq, reduceIte, Nat.reduceBEq, Nat.reduceAdd, Nat.reduceEqDiff, Nat.reduceLT, Nat.reduceLeDiff, Nat.reduceMul, Nat.reduceSub, BEq.rfl, beq_self_eq_true, Int.reduceToNat]
      first | refine hK _ ?_ | refine ⟨by (first | trivial | omega | (simp only [ob, ln, bdv, impl_clone_Visit_id, sv] at *; omega) | ((try clear hK K); (repeat' first | apply And.intro | intro _) <;> first | trivial | omega | assumption | solve_by_elim | (apply bd_getD <;> first | assumption | decide) | (apply bd_subL <;> first | assumption | decide) | (simp only [ob, ln, bdv, impl_clone_Visit_id, sv] at *; first | omega | assumption | (simp_all; done) | grind [impl_visitCode_lt]))), hK _ ?_⟩
      clear hK K
      refine AWP.seq ?_
      refine AWP.regS G_ok impl_MarkVisited_DD hc (by kernel_rfl) (fun K hK => ?_); simp only [ea, gv, sv, D_impl_visitCode, D_impl_clone_Visit, reduceCtorEq, reduceIte, Nat.reduceBEq, Nat.reduceAdd, Nat.reduceEqDiff, Nat.reduceLT, Nat.reduceLeDiff, Nat.reduceMul, Nat.reduceSub, BEq.rfl, beq_self_eq_true, Int.reduceToNat]
      first | refine hK _ ?_ | refine ⟨by (first | trivial | omega | (simp only [ob, ln, bdv, impl_clone_Visit_id, sv] at *; omega) | ((try clear hK K); (repeat' first | apply And.intro | intro _) <;> first | trivial | omega | assumption | solve_by_elim | (apply bd_getD <;> first | assumption | decide) | (apply bd_subL <;> first | assumption | decide) | (simp only [ob, ln, bdv, impl_clone_Visit_id, sv] at *; first | omega | assumption | (simp_all; done) | grind [impl_visitCode_lt]))), hK _ ?_⟩
      clear hK K
      refine AWP.seq ?_
      refine AWP.regS G_ok impl_MarkVisited_DD hc (by kernel_rfl) (fun K hK => ?_); simp only [ea, gv, sv, D_impl_visitCode, D_impl_clone_Visit, reduceCtorEq, reduceIte, Nat.reduceBEq, Nat.reduceAdd, Nat.reduceEqDiff, Nat.reduceLT, Nat.reduceLeDiff, Nat.reduceMul, Nat.reduceSub, BEq.rfl, beq_self_eq_true, Int.reduceToNat]
      first | refine hK _ ?_ | refine ⟨by (first | trivial | omega | (simp only [ob, ln, bdv, impl_clone_Visit_id, sv] at *; omega) | ((try clear hK K); (repeat' first | apply And.intro | intro _) <;> first | trivial | omega | assumption | solve_by_elim | (apply bd_getD <;> first | assumption | decide) | (apply bd_subL <;> first | assumption | decide) | (simp only [ob, ln, bdv, impl_clone_Visit_id, sv] at *; first | omega | assumption | (simp_all; done) | grind [impl_visitCode_lt]))), hK _ ?_⟩
      clear hK K
      refine AWP.ret ?_
      subst hR
      (simp only [en, si, ea, gv, sv, hk, reduceCtorEq, reduceIte, Nat.reduceBEq, Nat.reduceAdd, Nat.reduceEqDiff, Nat.reduceLT, Nat.reduceLeDiff, Nat.reduceMul, Nat.reduceSub, BEq.rfl, beq_self_eq_true, Int.reduceToNat]; first | done | trivial | (and_intros <;> first | rfl | trivial | omega | (rw [IntKind.wrap_i64]; omega) | (simp only [ln]; done) | (simp only [ob, ln, bdv, impl_clone_Visit_id, sv] at *; first | omega | grind [impl_visitCode_lt]) | (left; intro j hj; simp only [pw, Bool.cond_eq_ite, Bool.and_eq_true, decide_eq_true_eq]; (repeat' split) <;> simp [putL, NoBorL, NoBor]) | (intro j hj; simp only [pw, Bool.cond_eq_ite, Bool.and_eq_true, decide_eq_true_eq]; (try rw [subL_getD _ _ _ _ (by first | assumption | omega)]); (try rw [clearL_getD _ _ _ _ (by first | omega | (simp only [ob, ln, bdv] at *; omega))]); (repeat' split) <;> first | rfl | omega | exact simOL_refl _ | (simp_all; done) | (simp_all; rfl) | (simp_all; omega) | (simp_all; exact simOL_refl _) | (simp [putL, NoBorL, NoBor]; done))))

def D_impl_MarkVisited : DF
  | [x0, x1, x2] => some (.tup [ownL 83 3 eVisit ((impl_MarkVisited (rdL dVisit x0) (rdI x1) (rdI x2)).1), .int .i64 ((impl_MarkVisited (rdL dVisit x0) (rdI x1) (rdI x2)).2)], false, [wL 3 eVisit dVisit x0, wI .i64 x1, wI .i64 x2, (rdL dVisit x0).length < 1099511627776])
  | _ => none
def Dz_impl_MarkVisited : DF
  | [x0, x1, x2] => some (.tup [ownL 83 3 eVisit ((impl_MarkVisited (rdL dVisit x0) (rdI x1) (rdI x2)).1), .int .i64 ((impl_MarkVisited (rdL dVisit x0) (rdI x1) (rdI x2)).2)], true, [wL 3 eVisit dVisit x0, wI .i64 x1, wI .i64 x2, (rdL dVisit x0).length < 1099511627776])
  | _ => none
theorem D_impl_MarkVisited_ok : OkD Try.prog 22 D_impl_MarkVisited := by
  intro xs r z ob h ho
  unfold D_impl_MarkVisited at h
  split at h
  · simp only [Option.some.injEq, Prod.mk.injEq] at h
    obtain ⟨rfl, rfl, rfl⟩ := h
    obtain ⟨h0, h1, h2, hb0, _⟩ := ho
    exact Den.sim (impl_MarkVisited_den _ _ _ hb0) (simOL_cons (wL_sim h0).1 <| simOL_cons (wI_sim h1).1 <| simOL_cons (wI_sim h2).1 <| trivial) (noIdL_cons (wL_sim h0).2 <| noIdL_cons (wI_sim h1).2 <| noIdL_cons (wI_sim h2).2 <| rfl) rfl
  · cases h

theorem Dz_impl_MarkVisited_ok : OkD Try.prog 22 Dz_impl_MarkVisited := by
  intro xs r z ob h ho
  unfold Dz_impl_MarkVisited at h
  split at h
  · simp only [Option.some.injEq, Prod.mk.injEq] at h
    obtain ⟨rfl, rfl, rfl⟩ := h
    obtain ⟨h0, h1, h2, hb0, _⟩ := ho
    exact Den.sim (impl_MarkVisited_den _ _ _ hb0) (simOL_cons (wL_sim h0).1 <| simOL_cons (wI_sim h1).1 <| simOL_cons (wI_sim h2).1 <| trivial) (noIdL_cons (wL_sim h0).2 <| noIdL_cons (wI_sim h1).2 <| noIdL_cons (wI_sim h2).2 <| rfl) rfl
  · cases h
end Go.Ab

namespace Go.Ab
open Go Go.Proofs
theorem impl_MarkVisited_len (a : List Visit) (b c : Int) : (impl_MarkVisited a b c).1.length ≤ a.length := by
  unfold impl_MarkVisited
  simp only [Bool.cond_eq_ite, impl_clone_Visit_id]
  (repeat' split) <;> simp [-List.getD_eq_getElem?_getD]
end Go.Ab

namespace Go.Ab
open Go Go.Proofs
theorem spec_l00In_DD : DOk Try.prog (DD []) := DD_nil _
def spec_l00In (a0 : Int) (a1 : Int) (a2 : Int) : Bool :=
  (decide (a1 ≤ a0) && decide (a0 ≤ a2))

theorem spec_l00In_den (a0 : Int) (a1 : Int) (a2 : Int)  : Den Try.prog 95 [.int .i64 a0, .int .i64 a1, .int .i64 a2] (.bool (spec_l00In a0 a1 a2)) := by
  generalize hR : spec_l00In a0 a1 a2 = r
  unfold spec_l00In at hR
  refine den_intro G_ok Try.func95 (by kernel_rfl) rfl Try.ntmps95 (by rw [Try.results95]) (by simp) rfl ?_
  intro c hc hk
  simp only [pars, Nat.zero_add]
  refine AWP.seq ?_
  refine AWP.regS G_ok spec_l00In_DD hc (by kernel_rfl) (fun K hK => ?_); simp only [ea, gv, sv, reduceCtorEq, reduceIte, Nat.reduceBEq, Nat.reduceAdd, Nat.reduceEqDiff, Nat.reduceLT, Nat.reduceLeDiff, Nat.reduceMul, Nat.reduceSub, BEq.rfl, beq_self_eq_true, Int.reduceToNat]
  first | refine hK _ ?_ | refine ⟨by (first | trivial | omega | (simp only [ob, ln, bdv, sv] at *; omega) | ((try clear hK K); (repeat' first | apply And.intro | intro _) <;> first | trivial | omega | assumption | solve_by_elim | (apply bd_getD <;> first | assumption | decide) | (apply bd_subL <;> first | assumption | decide) | (simp only [ob, ln, bdv, sv] at *; first | omega | assumption | (simp_all; done) | grind))), hK _ ?_⟩
  clear hK K
  refine AWP.seq ?_
  refine AWP.regS G_ok spec_l00In_DD hc (by kernel_rfl) (fun K hK => ?_); simp only [ea, gv, sv, reduceCtorEq, reduceIte, Nat.reduceBEq, Nat.reduceAdd, Nat.reduceEqDiff, Nat.reduceLT, Nat.reduceLeDiff, Nat.reduceMul, Nat.reduceSub, BEq.rfl, beq_self_eq_true, Int.reduceToNat]
  first | refine hK _ ?_ | refine ⟨by (first | trivial | omega | (simp only [ob, ln, bdv, sv] at *; omega) | ((try clear hK K); (repeat' first | apply And.intro | intro _) <;> first | trivial | omega | assumption | solve_by_elim | (apply bd_getD <;> first | assumption | decide) | (apply bd_subL <;> first | assumption | decide) | (simp only [ob, ln, bdv, sv] at *; first | omega | assumption | (simp_all; done) | grind))), hK _ ?_⟩
  clear hK K
  refine AWP.ret ?_
  subst hR
  (simp only [en, si, ea, gv, sv, hk, reduceCtorEq, reduceIte, Nat.reduceBEq, Nat.reduceAdd, Nat.reduceEqDiff, Nat.reduceLT, Nat.reduceLeDiff, Nat.reduceMul, Nat.reduceSub, BEq.rfl, beq_self_eq_true, Int.reduceToNat]; first | done | trivial | (and_intros <;> first | rfl | trivial | omega | (rw [IntKind.wrap_i64]; omega) | (simp only [ln]; done) | (simp only [ob, ln, bdv, sv] at *; first | omega | grind) | (left; intro j hj; simp only [pw, Bool.cond_eq_ite, Bool.and_eq_true, decide_eq_true_eq]; (repeat' split) <;> simp [putL, NoBorL, NoBor]) | (intro j hj; simp only [pw, Bool.cond_eq_ite, Bool.and_eq_true, decide_eq_true_eq]; (try rw [subL_getD _ _ _ _ (by first | assumption | omega)]); (try rw [clearL_getD _ _ _ _ (by first | omega | (simp only [ob, ln, bdv] at *; omega))]); (repeat' split) <;> first | rfl | omega | exact simOL_refl _ | (simp_all; done) | (simp_all; rfl) | (simp_all; omega) | (simp_all; exact simOL_refl _) | (simp [putL, NoBorL, NoBor]; done))))

def D_spec_l00In : DF
  | [x0, x1, x2] => some (.bool (spec_l00In (rdI x0) (rdI x1) (rdI x2)), false, [wI .i64 x0, wI .i64 x1, wI .i64 x2])
  | _ => none
theorem D_spec_l00In_ok : OkD Try.prog 95 D_spec_l00In := by
  intro xs r z ob h ho
  unfold D_spec_l00In at h
  split at h
  · simp only [Option.some.injEq, Prod.mk.injEq] at h
    obtain ⟨rfl, rfl, rfl⟩ := h
    obtain ⟨h0, h1, h2, _⟩ := ho
    exact Den.sim (spec_l00In_den _ _ _ ) (simOL_cons (wI_sim h0).1 <| simOL_cons (wI_sim h1).1 <| simOL_cons (wI_sim h2).1 <| trivial) (noIdL_cons (wI_sim h0).2 <| noIdL_cons (wI_sim h1).2 <| noIdL_cons (wI_sim h2).2 <| rfl) rfl
  · cases h
end Go.Ab

namespace Go.Ab
open Go Go.Proofs
theorem spec_l20Number_DD : DOk Try.prog (DD [(95, dP D_spec_l00In)]) := DD_cons D_spec_l00In_ok.e <| DD_nil _
def spec_l20Number (a0 : Int) : Bool :=
  (spec_l00In a0 1 9999)

theorem spec_l20Number_den (a0 : Int)  : Den Try.prog 130 [.int .i64 a0] (.bool (spec_l20Number a0)) := by
  generalize hR : spec_l20Number a0 = r
  unfold spec_l20Number at hR
  refine den_intro G_ok Try.func130 (by kernel_rfl) rfl Try.ntmps130 (by rw [Try.results130]) (by simp) rfl ?_
  intro c hc hk
  simp only [pars, Nat.zero_add]
  refine AWP.seq ?_
  refine AWP.regS G_ok spec_l20Number_DD hc (by kernel_rfl) (fun K hK => ?_); simp only [ea, gv, sv, D_spec_l00In, reduceCtorEq, reduceIte, Nat.reduceBEq, Nat.reduceAdd, Nat.reduceEqDiff, Nat.reduceLT, Nat.reduceLeDiff, Nat.reduceMul, Nat.reduceSub, BEq.rfl, beq_self_eq_true, Int.reduceToNat]
  first | refine hK _ ?_ | refine ⟨by (first | trivial | omega | (simp only [ob, ln, bdv, spec_l00In, sv] at *; omega) | ((try clear hK K); (repeat' first | apply And.intro | intro _) <;> first | trivial | omega | assumption | solve_by_elim | (apply bd_getD <;> first | assumption | decide) | (apply bd_subL <;> first | assumption | decide) | (simp only [ob, ln, bdv, spec_l00In, sv] at *; first | omega | assumption | (simp_all; done) | grind))), hK _ ?_⟩
  clear hK K
  refine AWP.seq ?_
  refine AWP.regS G_ok spec_l20Number_DD hc (by kernel_rfl) (fun K hK => ?_); simp only [ea, gv, sv, D_spec_l00In, reduceCtorEq, reduceIte, Nat.reduceBEq, Nat.reduceAdd, Nat.reduceEqDiff, Nat.reduceLT, Nat.reduceLeDiff, Nat.reduceMul, Nat.reduceSub, BEq.rfl, beq_self_eq_true, Int.reduceToNat]
  first | refine hK _ ?_ | refine ⟨by (first | trivial | omega | (simp only [ob, ln, bdv, spec_l00In, sv] at *; omega) | ((try clear hK K); (repeat' first | apply And.intro | intro _) <;> first | trivial | omega | assumption | solve_by_elim | (apply bd_getD <;> first | assumption | decide) | (apply bd_subL <;> first | assumption | decide) | (simp only [ob, ln, bdv, spec_l00In, sv] at *; first | omega | assumption | (simp_all; done) | grind))), hK _ ?_⟩
  clear hK K
  refine AWP.ret ?_
  subst hR
  (simp only [en, si, ea, gv, sv, hk, reduceCtorEq, reduceIte, Nat.reduceBEq, Nat.reduceAdd, Nat.reduceEqDiff, Nat.reduceLT, Nat.reduceLeDiff, Nat.reduceMul, Nat.reduceSub, BEq.rfl, beq_self_eq_true, Int.reduceToNat]; first | done | trivial | (and_intros <;> first | rfl | trivial | omega | (rw [IntKind.wrap_i64]; omega) | (simp only [ln]; done) | (simp only [ob, ln, bdv, spec_l00In, sv] at *; first | omega | grind) | (left; intro j hj; simp only [pw, Bool.cond_eq_ite, Bool.and_eq_true, decide_eq_true_eq]; (repeat' split) <;> simp [putL, NoBorL, NoBor]) | (intro j hj; simp only [pw, Bool.cond_eq_ite, Bool.and_eq_true, decide_eq_true_eq]; (try rw [subL_getD _ _ _ _ (by first | assumption | omega)]); (try rw [clearL_getD _ _ _ _ (by first | omega | (simp only [ob, ln, bdv] at *; omega))]); (repeat' split) <;> first | rfl | omega | exact simOL_refl _ | (simp_all; done) | (simp_all; rfl) | (simp_all; omega) | (simp_all; exact simOL_refl _) | (simp [putL, NoBorL, NoBor]; done))))

def D_spec_l20Number : DF
  | [x0] => some (.bool (spec_l20Number (rdI x0)), false, [wI .i64 x0])
  | _ => none
theorem D_spec_l20Number_ok : OkD Try.prog 130 D_spec_l20Number := by
  intro xs r z ob h ho
  unfold D_spec_l20Number at h
  split at h
  · simp only [Option.some.injEq, Prod.mk.injEq] at h
    obtain ⟨rfl, rfl, rfl⟩ := h
    obtain ⟨h0, _⟩ := ho
    exact Den.sim (spec_l20Number_den _ ) (simOL_cons (wI_sim h0).1 <| trivial) (noIdL_cons (wI_sim h0).2 <| rfl) rfl
  · cases h
end Go.Ab

namespace Go.Ab
open Go Go.Proofs
theorem spec_l04Day_DD : DOk Try.prog (DD [(95, dP D_spec_l00In)]) := DD_cons D_spec_l00In_ok.e <| DD_nil _
def spec_l04Day (a0 : Int) : Bool :=
  (spec_l00In a0 0 99999)

theorem spec_l04Day_den (a0 : Int)  : Den Try.prog 61 [.int .i64 a0] (.bool (spec_l04Day a0)) := by
  generalize hR : spec_l04Day a0 = r
  unfold spec_l04Day at hR
  refine den_intro G_ok Try.func61 (by kernel_rfl) rfl Try.ntmps61 (by rw [Try.results61]) (by simp) rfl ?_
  intro c hc hk
  simp only [pars, Nat.zero_add]
  refine AWP.seq ?_
  refine AWP.regS G_ok spec_l04Day_DD hc (by kernel_rfl) (fun K hK => ?_); simp only [ea, gv, sv, D_spec_l00In, reduceCtorEq, reduceIte, Nat.reduceBEq, Nat.reduceAdd, Nat.reduceEqDiff, Nat.reduceLT, Nat.reduceLeDiff, Nat.reduceMul, Nat.reduceSub, BEq.rfl, beq_self_eq_true, Int.reduceToNat]
  first | refine hK _ ?_ | refine ⟨by (first | trivial | omega | (simp only [ob, ln, bdv, spec_l00In, sv] at *; omega) | ((try clear hK K); (repeat' first | apply And.intro | intro _) <;> first | trivial | omega | assumption | solve_by_elim | (apply bd_getD <;> first | assumption | decide) | (apply bd_subL <;> first | assumption | decide) | (simp only [ob, ln, bdv, spec_l00In, sv] at *; first | omega | assumption | (simp_all; done) | grind))), hK _ ?_⟩
  clear hK K
  refine AWP.seq ?_
  refine AWP.regS G_ok spec_l04Day_DD hc (by kernel_rfl) (fun K hK => ?_); simp only [ea, gv, sv, D_spec_l00In, reduceCtorEq, reduceIte, Nat.reduceBEq, Nat.reduceAdd, Nat.reduceEqDiff, Nat.reduceLT, Nat.reduceLeDiff, Nat.reduceMul, Nat.reduceSub, BEq.rfl, beq_self_eq_true, Int.reduceToNat]
  first | refine hK _ ?_ | refine ⟨by (first | trivial | omega | (simp only [ob, ln, bdv, spec_l00In, sv] at *; omega) | ((try clear hK K); (repeat' first | apply And.intro | intro _) <;> first | trivial | omega | assumption | solve_by_elim | (apply bd_getD <;> first | assumption | decide) | (apply bd_subL <;> first | assumption | decide) | (simp only [ob, ln, bdv, spec_l00In, sv] at *; first | omega | assumption | (simp_all; done) | grind))), hK _ ?_⟩
  clear hK K
  refine AWP.ret ?_
  subst hR
  (simp only [en, si, ea, gv, sv, hk, reduceCtorEq, reduceIte, Nat.reduceBEq, Nat.reduceAdd, Nat.reduceEqDiff, Nat.reduceLT, Nat.reduceLeDiff, Nat.reduceMul, Nat.reduceSub, BEq.rfl, beq_self_eq_true, Int.reduceToNat]; first | done | trivial | (and_intros <;> first | rfl | trivial | omega | (rw [IntKind.wrap_i64]; omega) | (simp only [ln]; done) | (simp only [ob, ln, bdv, spec_l00In, sv] at *; first | omega | grind) | (left; intro j hj; simp only [pw, Bool.cond_eq_ite, Bool.and_eq_true, decide_eq_true_eq]; (repeat' split) <;> simp [putL, NoBorL, NoBor]) | (intro j hj; simp only [pw, Bool.cond_eq_ite, Bool.and_eq_true, decide_eq_true_eq]; (try rw [subL_getD _ _ _ _ (by first | assumption | omega)]); (try rw [clearL_getD _ _ _ _ (by first | omega | (simp only [ob, ln, bdv] at *; omega))]); (repeat' split) <;> first | rfl | omega | exact simOL_refl _ | (simp_all; done) | (simp_all; rfl) | (simp_all; omega) | (simp_all; exact simOL_refl _) | (simp [putL, NoBorL, NoBor]; done))))

def D_spec_l04Day : DF
  | [x0] => some (.bool (spec_l04Day (rdI x0)), false, [wI .i64 x0])
  | _ => none
theorem D_spec_l04Day_ok : OkD Try.prog 61 D_spec_l04Day := by
  intro xs r z ob h ho
  unfold D_spec_l04Day at h
  split at h
  · simp only [Option.some.injEq, Prod.mk.injEq] at h
    obtain ⟨rfl, rfl, rfl⟩ := h
    obtain ⟨h0, _⟩ := ho
    exact Den.sim (spec_l04Day_den _ ) (simOL_cons (wI_sim h0).1 <| trivial) (noIdL_cons (wI_sim h0).2 <| rfl) rfl
  · cases h
end Go.Ab

namespace Go.Ab
open Go Go.Proofs
theorem spec_l30One_DD : DOk Try.prog (DD [(130, dP D_spec_l20Number), (61, dP D_spec_l04Day), (95, dP D_spec_l00In)]) := DD_cons D_spec_l20Number_ok.e <| DD_cons D_spec_l04Day_ok.e <| DD_cons D_spec_l00In_ok.e <| DD_nil _
def spec_l30One (a0 : Visit) : Bool :=
  (((spec_l20Number a0.Aid) && (spec_l00In a0.Every 1 3650)) && (spec_l04Day a0.Last))

theorem spec_l30One_den (a0 : Visit)  : Den Try.prog 108 [.ep (eVisit a0)] (.bool (spec_l30One a0)) := by
  generalize hR : spec_l30One a0 = r
  unfold spec_l30One at hR
  refine den_intro G_ok Try.func108 (by kernel_rfl) rfl Try.ntmps108 (by rw [Try.results108]) (by simp) rfl ?_
  intro c hc hk
  simp only [pars, Nat.zero_add]
  refine AWP.seq ?_
  refine AWP.regS G_ok spec_l30One_DD hc (by kernel_rfl) (fun K hK => ?_); simp only [ea, gv, sv, D_spec_l20Number, D_spec_l04Day, D_spec_l00In, reduceCtorEq, reduceIte, Nat.reduceBEq, Nat.reduceAdd, Nat.reduceEqDiff, Nat.reduceLT, Nat.reduceLeDiff, Nat.reduceMul, Nat.reduceSub, BEq.rfl, beq_self_eq_true, Int.reduceToNat]
  first | refine hK _ ?_ | refine ⟨by (first | trivial | omega | (simp only [ob, ln, bdv, spec_l00In, sv] at *; omega) | ((try clear hK K); (repeat' first | apply And.intro | intro _) <;> first | trivial | omega | assumption | solve_by_elim | (apply bd_getD <;> first | assumption | decide) | (apply bd_subL <;> first | assumption | decide) | (simp only [ob, ln, bdv, spec_l00In, sv] at *; first | omega | assumption | (simp_all; done) | grind))), hK _ ?_⟩
  clear hK K
  refine AWP.seq ?_
  refine AWP.regS G_ok spec_l30One_DD hc (by kernel_rfl) (fun K hK => ?_); simp only [ea, gv, sv, D_spec_l20Number, D_spec_l04Day, D_spec_l00In, reduceCtorEq, reduceIte, Nat.reduceBEq, Nat.reduceAdd, Nat.reduceEqDiff, Nat.reduceLT, Nat.reduceLeDiff, Nat.reduceMul, Nat.reduceSub, BEq.rfl, beq_self_eq_true, Int.reduceToNat]
  first | refine hK _ ?_ | refine ⟨by (first | trivial | omega | (simp only [ob, ln, bdv, spec_l00In, sv] at *; omega) | ((try clear hK K); (repeat' first | apply And.intro | intro _) <;> first | trivial | omega | assumption | solve_by_elim | (apply bd_getD <;> first | assumption | decide) | (apply bd_subL <;> first | assumption | decide) | (simp only [ob, ln, bdv, spec_l00In, sv] at *; first | omega | assumption | (simp_all; done) | grind))), hK _ ?_⟩
  clear hK K
  refine AWP.ret ?_
  subst hR
  (simp only [en, si, ea, gv, sv, hk, reduceCtorEq, reduceIte, Nat.reduceBEq, Nat.reduceAdd, Nat.reduceEqDiff, Nat.reduceLT, Nat.reduceLeDiff, Nat.reduceMul, Nat.reduceSub, BEq.rfl, beq_self_eq_true, Int.reduceToNat]; first | done | trivial | (and_intros <;> first | rfl | trivial | omega | (rw [IntKind.wrap_i64]; omega) | (simp only [ln]; done) | (simp only [ob, ln, bdv, spec_l00In, sv] at *; first | omega | grind) | (left; intro j hj; simp only [pw, Bool.cond_eq_ite, Bool.and_eq_true, decide_eq_true_eq]; (repeat' split) <;> simp [putL, NoBorL, NoBor]) | (intro j hj; simp only [pw, Bool.cond_eq_ite, Bool.and_eq_true, decide_eq_true_eq]; (try rw [subL_getD _ _ _ _ (by first | assumption | omega)]); (try rw [clearL_getD _ _ _ _ (by first | omega | (simp only [ob, ln, bdv] at *; omega))]); (repeat' split) <;> first | rfl | omega | exact simOL_refl _ | (simp_all; done) | (simp_all; rfl) | (simp_all; omega) | (simp_all; exact simOL_refl _) | (simp [putL, NoBorL, NoBor]; done))))

def D_spec_l30One : DF
  | [x0] => some (.bool (spec_l30One (rdP dVisit x0)), false, [wP eVisit dVisit x0])
  | _ => none
theorem D_spec_l30One_ok : OkD Try.prog 108 D_spec_l30One := by
  intro xs r z ob h ho
  unfold D_spec_l30One at h
  split at h
  · simp only [Option.some.injEq, Prod.mk.injEq] at h
    obtain ⟨rfl, rfl, rfl⟩ := h
    obtain ⟨h0, _⟩ := ho
    exact Den.sim (spec_l30One_den _ ) (simOL_cons (wP_sim h0).1 <| trivial) (noIdL_cons (wP_sim h0).2 <| rfl) rfl
  · cases h
end Go.Ab

namespace Go.Ab
open Go Go.Proofs
theorem spec_l30Ok_DD : DOk Try.prog (DD [(108, dP D_spec_l30One)]) := DD_cons D_spec_l30One_ok.e <| DD_nil _
def spec_l30Ok_b1 (a0 : (List Visit)) (i1 : Nat) (s1 : Unit) : Except (Bool) (Unit) :=
  (bif ((!(spec_l30One (a0.getD i1 default))) || (decide (0 < (i1 : Int)) && decide (((a0.getD i1 default).Aid) ≤ ((a0.getD ((IntKind.wrap .i64 ((i1 : Int) - 1)).toNat) default).Aid)))) then .error false else .ok ())

def spec_l30Ok (a0 : (List Visit)) : Bool :=
  (match loopR (spec_l30Ok_b1 a0) (a0.length - 0) 0 () with | .error e => e | .ok s1 => decide ((a0.length : Int) ≤ 24))

theorem spec_l30Ok_den (a0 : (List Visit)) (hb0 : a0.length < 1099511627776) : Den Try.prog 60 [encL 3 eVisit a0] (.bool (spec_l30Ok a0)) := by
  generalize hR : spec_l30Ok a0 = r
  unfold spec_l30Ok at hR
  refine den_intro G_ok Try.func60 (by kernel_rfl) rfl Try.ntmps60 (by rw [Try.results60]) (by simp) rfl ?_
  intro c hc hk
  simp only [pars, Nat.zero_add]
  refine AWP.seq ?_
  refine AWP.regS G_ok spec_l30Ok_DD hc (by kernel_rfl) (fun K hK => ?_); simp only [ea, gv, sv, D_spec_l30One, reduceCtorEq, reduceIte, Nat.reduceBEq, Nat.reduceAdd, Nat.reduceEqDiff, Nat.reduceLT, Nat.reduceLeDiff, Nat.reduceMul, Nat.reduceSub, BEq.rfl, beq_self_eq_true, Int.reduceToNat]
  first | refine hK _ ?_ | refine ⟨by (first | trivial | omega | (simp only [ob, ln, bdv, sv] at *; omega) | ((try clear hK K); (repeat' first | apply And.intro | intro _) <;> first | trivial | omega | assumption | solve_by_elim | (apply bd_getD <;> first | assumption | decide) | (apply bd_subL <;> first | assumption | decide) | (simp only [ob, ln, bdv, sv] at *; first | omega | assumption | (simp_all; done) | grind))), hK _ ?_⟩
  clear hK K
  refine AWP.seq ?_
  refine AWP.seq ?_
  refine AWP.regS G_ok spec_l30Ok_DD hc (by kernel_rfl) (fun K hK => ?_); simp only [ea, gv, sv, D_spec_l30One, reduceCtorEq, reduceIte, Nat.reduceBEq, Nat.reduceAdd, Nat.reduceEqDiff, Nat.reduceLT, Nat.reduceLeDiff, Nat.reduceMul, Nat.reduceSub, BEq.rfl, beq_self_eq_true, Int.reduceToNat]
  first | refine hK _ ?_ | refine ⟨by (first | trivial | omega | (simp only [ob, ln, bdv, sv] at *; omega) | ((try clear hK K); (repeat' first | apply And.intro | intro _) <;> first | trivial | omega | assumption | solve_by_elim | (apply bd_getD <;> first | assumption | decide) | (apply bd_subL <;> first | assumption | decide) | (simp only [ob, ln, bdv, sv] at *; first | omega | assumption | (simp_all; done) | grind))), hK _ ?_⟩
  clear hK K
  refine AWP.block ?_
  generalize hz1 : loopR (spec_l30Ok_b1 a0) (a0.length - 0) 0 () = z1 at hR
  refine AWP.range (spec_l30Ok_b1 a0) (fun i1 s1 => ⟨[(0, encL 3 eVisit a0), (3, .int .i64 (i1 : Int))], []⟩) (fun i1 s1 => True) (a0.length) 0 () [] hz1 (by (first | trivial | omega | (simp only [ob, ln, bdv, sv] at *; omega) | ((try clear hK K); (repeat' first | apply And.intro | intro _) <;> first | trivial | omega | assumption | solve_by_elim | (apply bd_getD <;> first | assumption | decide) | (apply bd_subL <;> first | assumption | decide) | (simp only [ob, ln, bdv, sv] at *; first | omega | assumption | (simp_all; done) | grind)))) (by (first | trivial | (and_intros <;> simp only [ln] <;> omega) | (and_intros <;> simp only [ob, ln] at * <;> omega) | (and_intros <;> first | trivial | omega | assumption | (apply bd_set <;> first | assumption | (apply bd_getD <;> first | assumption | decide)) | (apply bd_app <;> first | assumption | (apply bd_getD <;> first | assumption | decide)) | (simp only [ob, ln, bdv, sv] at *; omega) | (simp; done)))) (by (simp only [si, ea, gv, sv, hk, reduceCtorEq, reduceIte, Nat.reduceBEq, Nat.reduceAdd, Nat.reduceEqDiff, Nat.reduceLT, Nat.reduceLeDiff, Nat.reduceMul, Nat.reduceSub, BEq.rfl, beq_self_eq_true, Int.reduceToNat]; first | done | trivial | (and_intros <;> first | rfl | trivial | omega | (rw [IntKind.wrap_i64]; omega) | (simp only [ln]; done) | (simp only [ob, ln, bdv, sv] at *; first | omega | grind) | (left; intro j hj; simp only [pw, Bool.cond_eq_ite, Bool.and_eq_true, decide_eq_true_eq]; (repeat' split) <;> simp [putL, NoBorL, NoBor]) | (intro j hj; simp only [pw, Bool.cond_eq_ite, Bool.and_eq_true, decide_eq_true_eq]; (try rw [subL_getD _ _ _ _ (by first | assumption | omega)]); (try rw [clearL_getD _ _ _ _ (by first | omega | (simp only [ob, ln, bdv] at *; omega))]); (repeat' split) <;> first | rfl | omega | exact simOL_refl _ | (simp_all; done) | (simp_all; rfl) | (simp_all; omega) | (simp_all; exact simOL_refl _) | (simp [putL, NoBorL, NoBor]; done))))) ?_
  clear hz1
  intro i1 s1 hi1 hW1 hz1
  refine AWP.seq ?_
  refine AWP.seq ?_
  refine AWP.regS G_ok spec_l30Ok_DD hc (by kernel_rfl) (fun K hK => ?_); simp only [ea, gv, sv, D_spec_l30One, reduceCtorEq, reduceIte, Nat.reduceBEq, Nat.reduceAdd, Nat.reduceEqDiff, Nat.reduceLT, Nat.reduceLeDiff, Nat.reduceMul, Nat.reduceSub, BEq.rfl, beq_self_eq_true, Int.reduceToNat]
  first | refine hK _ ?_ | refine ⟨by (first | trivial | omega | (simp only [ob, ln, bdv, sv] at *; omega) | ((try clear hK K); (repeat' first | apply And.intro | intro _) <;> first | trivial | omega | assumption | solve_by_elim | (apply bd_getD <;> first | assumption | decide) | (apply bd_subL <;> first | assumption | decide) | (simp only [ob, ln, bdv, sv] at *; first | omega | assumption | (simp_all; done) | grind))), hK _ ?_⟩
  clear hK K
  refine AWP.cond rfl (fun hb => ?_) (fun hb => ?_)
  · have hlt1 : i1 < a0.length := by (first | trivial | omega | (simp only [ob, ln, bdv, sv] at *; omega) | ((try clear hK K); (repeat' first | apply And.intro | intro _) <;> first | trivial | omega | assumption | solve_by_elim | (apply bd_getD <;> first | assumption | decide) | (apply bd_subL <;> first | assumption | decide) | (simp only [ob, ln, bdv, sv] at *; first | omega | assumption | (simp_all; done) | grind)))
    rw [loopR_lt hlt1] at hz1; simp only [spec_l30Ok_b1] at hz1
    refine AWP.skip ?_
    refine AWP.seq ?_
    refine AWP.block ?_
    refine AWP.seq ?_
    refine AWP.regM mixed G_ok spec_l30Ok_DD hc (by kernel_rfl) (by kernel_rfl) (fun K hK => ?_); simp only [ea, gv, sv, D_spec_l30One, reduceCtorEq, reduceIte, Nat.reduceBEq, Nat.reduceAdd, Nat.reduceEqDiff, Nat.reduceLT, Nat.reduceLeDiff, Nat.reduceMul, Nat.reduceSub, BEq.rfl, beq_self_eq_true, Int.reduceToNat]
    first | refine hK _ ?_ | refine ⟨by (first | trivial | omega | (simp only [ob, ln, bdv, sv] at *; omega) | ((try clear hK K); (repeat' first | apply And.intro | intro _) <;> first | trivial | omega | assumption | solve_by_elim | (apply bd_getD <;> first | assumption | decide) | (apply bd_subL <;> first | assumption | decide) | (simp only [ob, ln, bdv, sv] at *; first | omega | assumption | (simp_all; done) | grind))), hK _ ?_⟩
    clear hK K
    refine AWP.cond rfl (fun hb => ?_) (fun hb => ?_)
    · first | simp only [hb, cond_true] at hz1 | (simp only [*] at hb; simp only [hb, cond_true] at hz1)
      refine AWP.seq ?_
      refine AWP.regS G_ok spec_l30Ok_DD hc (by kernel_rfl) (fun K hK => ?_); simp only [ea, gv, sv, D_spec_l30One, reduceCtorEq, reduceIte, Nat.reduceBEq, Nat.reduceAdd, Nat.reduceEqDiff, Nat.reduceLT, Nat.reduceLeDiff, Nat.reduceMul, Nat.reduceSub, BEq.rfl, beq_self_eq_true, Int.reduceToNat]
      first | refine hK _ ?_ | refine ⟨by (first | trivial | omega | (simp only [ob, ln, bdv, sv] at *; omega) | ((try clear hK K); (repeat' first | apply And.intro | intro _) <;> first | trivial | omega | assumption | solve_by_elim | (apply bd_getD <;> first | assumption | decide) | (apply bd_subL <;> first | assumption | decide) | (simp only [ob, ln, bdv, sv] at *; first | omega | assumption | (simp_all; done) | grind))), hK _ ?_⟩
      clear hK K
      refine AWP.ret ?_
      subst hz1
      dsimp only at hR
      subst hR
      (simp only [en, si, ea, gv, sv, hk, reduceCtorEq, reduceIte, Nat.reduceBEq, Nat.reduceAdd, Nat.reduceEqDiff, Nat.reduceLT, Nat.reduceLeDiff, Nat.reduceMul, Nat.reduceSub, BEq.rfl, beq_self_eq_true, Int.reduceToNat]; first | done | trivial | (and_intros <;> first | rfl | trivial | omega | (rw [IntKind.wrap_i64]; omega) | (simp only [ln]; done) | (simp only [ob, ln, bdv, sv] at *; first | omega | grind) | (left; intro j hj; simp only [pw, Bool.cond_eq_ite, Bool.and_eq_true, decide_eq_true_eq]; (repeat' split) <;> simp [putL, NoBorL, NoBor]) | (intro j hj; simp only [pw, Bool.cond_eq_ite, Bool.and_eq_true, decide_eq_true_eq]; (try rw [subL_getD _ _ _ _ (by first | assumption | omega)]); (try rw [clearL_getD _ _ _ _ (by first | omega | (simp only [ob, ln, bdv] at *; omega))]); (repeat' split) <;> first | rfl | omega | exact simOL_refl _ | (simp_all; done) | (simp_all; rfl) | (simp_all; omega) | (simp_all; exact simOL_refl _) | (simp [putL, NoBorL, NoBor]; done))))
    · first | simp only [hb, cond_false] at hz1 | (simp only [*] at hb; simp only [hb, cond_false] at hz1)
      refine AWP.skip ?_
      refine AWP.regS G_ok spec_l30Ok_DD hc (by kernel_rfl) (fun K hK => ?_); simp only [ea, gv, sv, D_spec_l30One, reduceCtorEq, reduceIte, Nat.reduceBEq, Nat.reduceAdd, Nat.reduceEqDiff, Nat.reduceLT, Nat.reduceLeDiff, Nat.reduceMul, Nat.reduceSub, BEq.rfl, beq_self_eq_true, Int.reduceToNat]
      first | refine hK _ ?_ | refine ⟨by (first | trivial | omega | (simp only [ob, ln, bdv, sv] at *; omega) | ((try clear hK K); (repeat' first | apply And.intro | intro _) <;> first | trivial | omega | assumption | solve_by_elim | (apply bd_getD <;> first | assumption | decide) | (apply bd_subL <;> first | assumption | decide) | (simp only [ob, ln, bdv, sv] at *; first | omega | assumption | (simp_all; done) | grind))), hK _ ?_⟩
      clear hK K
      exact ⟨_, [], hlt1, by (first | trivial | (and_intros <;> simp only [ln] <;> omega) | (and_intros <;> simp only [ob, ln] at * <;> omega) | (and_intros <;> first | trivial | omega | assumption | (apply bd_set <;> first | assumption | (apply bd_getD <;> first | assumption | decide)) | (apply bd_app <;> first | assumption | (apply bd_getD <;> first | assumption | decide)) | (simp only [ob, ln, bdv, sv] at *; omega) | (simp; done))), hz1, by (simp only [si, ea, gv, sv, hk, reduceCtorEq, reduceIte, Nat.reduceBEq, Nat.reduceAdd, Nat.reduceEqDiff, Nat.reduceLT, Nat.reduceLeDiff, Nat.reduceMul, Nat.reduceSub, BEq.rfl, beq_self_eq_true, Int.reduceToNat]; first | done | trivial | (and_intros <;> first | rfl | trivial | omega | (rw [IntKind.wrap_i64]; omega) | (simp only [ln]; done) | (simp only [ob, ln, bdv, sv] at *; first | omega | grind) | (left; intro j hj; simp only [pw, Bool.cond_eq_ite, Bool.and_eq_true, decide_eq_true_eq]; (repeat' split) <;> simp [putL, NoBorL, NoBor]) | (intro j hj; simp only [pw, Bool.cond_eq_ite, Bool.and_eq_true, decide_eq_true_eq]; (try rw [subL_getD _ _ _ _ (by first | assumption | omega)]); (try rw [clearL_getD _ _ _ _ (by first | omega | (simp only [ob, ln, bdv] at *; omega))]); (repeat' split) <;> first | rfl | omega | exact simOL_refl _ | (simp_all; done) | (simp_all; rfl) | (simp_all; omega) | (simp_all; exact simOL_refl _) | (simp [putL, NoBorL, NoBor]; done))))⟩
  · obtain rfl : i1 = a0.length := by (first | trivial | omega | (simp only [ob, ln, bdv, sv] at *; omega) | ((try clear hK K); (repeat' first | apply And.intro | intro _) <;> first | trivial | omega | assumption | solve_by_elim | (apply bd_getD <;> first | assumption | decide) | (apply bd_subL <;> first | assumption | decide) | (simp only [ob, ln, bdv, sv] at *; first | omega | assumption | (simp_all; done) | grind)))
    rw [loopR_ge (Nat.le_refl _)] at hz1; subst hz1; dsimp only at hR
    refine AWP.exit ?_; refine exitTo_here ?_
    refine AWP.seq ?_
    refine AWP.regS G_ok spec_l30Ok_DD hc (by kernel_rfl) (fun K hK => ?_); simp only [ea, gv, sv, D_spec_l30One, reduceCtorEq, reduceIte, Nat.reduceBEq, Nat.reduceAdd, Nat.reduceEqDiff, Nat.reduceLT, Nat.reduceLeDiff, Nat.reduceMul, Nat.reduceSub, BEq.rfl, beq_self_eq_true, Int.reduceToNat]
    first | refine hK _ ?_ | refine ⟨by (first | trivial | omega | (simp only [ob, ln, bdv, sv] at *; omega) | ((try clear hK K); (repeat' first | apply And.intro | intro _) <;> first | trivial | omega | assumption | solve_by_elim | (apply bd_getD <;> first | assumption | decide) | (apply bd_subL <;> first | assumption | decide) | (simp only [ob, ln, bdv, sv] at *; first | omega | assumption | (simp_all; done) | grind))), hK _ ?_⟩
    clear hK K
    refine AWP.ret ?_
    subst hR
    (simp only [en, si, ea, gv, sv, hk, reduceCtorEq, reduceIte, Nat.reduceBEq, Nat.reduceAdd, Nat.reduceEqDiff, Nat.reduceLT, Nat.reduceLeDiff, Nat.reduceMul, Nat.reduceSub, BEq.rfl, beq_self_eq_true, Int.reduceToNat]; first | done | trivial | (and_intros <;> first | rfl | trivial | omega | (rw [IntKind.wrap_i64]; omega) | (simp only [ln]; done) | (simp only [ob, ln, bdv, sv] at *; first | omega | grind) | (left; intro j hj; simp only [pw, Bool.cond_eq_ite, Bool.and_eq_true, decide_eq_true_eq]; (repeat' split) <;> simp [putL, NoBorL, NoBor]) | (intro j hj; simp only [pw, Bool.cond_eq_ite, Bool.and_eq_true, decide_eq_true_eq]; (try rw [subL_getD _ _ _ _ (by first | assumption | omega)]); (try rw [clearL_getD _ _ _ _ (by first | omega | (simp only [ob, ln, bdv] at *; omega))]); (repeat' split) <;> first | rfl | omega | exact simOL_refl _ | (simp_all; done) | (simp_all; rfl) | (simp_all; omega) | (simp_all; exact simOL_refl _) | (simp [putL, NoBorL, NoBor]; done))))

def D_spec_l30Ok : DF
  | [x0] => some (.bool (spec_l30Ok (rdL dVisit x0)), false, [wL 3 eVisit dVisit x0, (rdL dVisit x0).length < 1099511627776])
  | _ => none
theorem D_spec_l30Ok_ok : OkD Try.prog 60 D_spec_l30Ok := by
  intro xs r z ob h ho
  unfold D_spec_l30Ok at h
  split at h
  · simp only [Option.some.injEq, Prod.mk.injEq] at h
    obtain ⟨rfl, rfl, rfl⟩ := h
    obtain ⟨h0, hb0, _⟩ := ho
    exact Den.sim (spec_l30Ok_den _ hb0) (simOL_cons (wL_sim h0).1 <| trivial) (noIdL_cons (wL_sim h0).2 <| rfl) rfl
  · cases h
end Go.Ab

namespace Go.Ab
open Go Go.Proofs
theorem spec_MarkVisited_DD : DOk Try.prog (DD [(60, dP D_spec_l30Ok), (61, dP D_spec_l04Day), (62, dP D_spec_l30Find)]) := DD_cons D_spec_l30Ok_ok.e <| DD_cons D_spec_l04Day_ok.e <| DD_cons D_spec_l30Find_ok.e <| DD_nil _
def spec_MarkVisited (a0 : (List Visit)) (a1 : Int) (a2 : Int) : ((List Visit) × Int) :=
  (bif (!(spec_l30Ok a0)) then ([], 1) else (bif (!(spec_l04Day a2)) then ([], 2) else (bif decide ((spec_l30Find a0 a1) < 0) then ([], 3) else (bif decide (a2 < ((a0.getD (((spec_l30Find a0 a1)).toNat) default).Last)) then ([], 7) else ((([] : List Visit) ++ a0).set (((spec_l30Find a0 a1)).toNat) ({ Aid := ((([] : List Visit) ++ a0).getD (((spec_l30Find a0 a1)).toNat) default).Aid, Every := ((([] : List Visit) ++ a0).getD (((spec_l30Find a0 a1)).toNat) default).Every, Last := a2 : Visit }), 0)))))

theorem spec_MarkVisited_den (a0 : (List Visit)) (a1 : Int) (a2 : Int) (hb0 : a0.length < 1099511627776) : Den Try.prog 20 [encL 3 eVisit a0, .int .i64 a1, .int .i64 a2] (.tup [ownL 83 3 eVisit ((spec_MarkVisited a0 a1 a2).1), .int .i64 ((spec_MarkVisited a0 a1 a2).2)]) := by
  generalize hR : spec_MarkVisited a0 a1 a2 = r
  unfold spec_MarkVisited at hR
  refine den_intro G_ok Try.func20 (by kernel_rfl) rfl Try.ntmps20 (by rw [Try.results20]) (by simp) rfl ?_
  intro c hc hk
  simp only [pars, Nat.zero_add]
  have hf := spec_l30Find_lt a0 a1
  refine AWP.seq ?_
  refine AWP.regS G_ok spec_MarkVisited_DD hc (by kernel_rfl) (fun K hK => ?_); simp only [ea, gv, sv, D_spec_l30Ok, D_spec_l04Day, D_spec_l30Find, reduceCtorEq, reduceIte, Nat.reduceBEq, Nat.reduceAdd, Nat.reduceEqDiff, Nat.reduceLT, Nat.reduceLeDiff, Nat.reduceMul, Nat.reduceSub, BEq.rfl, beq_self_eq_true, Int.reduceToNat]
  first | refine hK _ ?_ | refine ⟨by (first | trivial | omega | (simp only [ob, ln, bdv, sv] at *; omega) | ((try clear hK K); (repeat' first | apply And.intro | intro _) <;> first | trivial | omega | assumption | solve_by_elim | (apply bd_getD <;> first | assumption | decide) | (apply bd_subL <;> first | assumption | decide) | (simp only [ob, ln, bdv, sv] at *; first | omega | assumption | (simp_all; done) | grind [spec_l30Find_lt]))), hK _ ?_⟩
  clear hK K
  refine AWP.seq ?_
  refine AWP.seq ?_
  refine AWP.regS G_ok spec_MarkVisited_DD hc (by kernel_rfl) (fun K hK => ?_); simp only [ea, gv, sv, D_spec_l30Ok, D_spec_l04Day, D_spec_l30Find, reduceCtorEq, reduceIte, Nat.reduceBEq, Nat.reduceAdd, Nat.reduceEqDiff, Nat.reduceLT, Nat.reduceLeDiff, Nat.reduceMul, Nat.reduceSub, BEq.rfl, beq_self_eq_true, Int.reduceToNat]
  first | refine hK _ ?_ | refine ⟨by (first | trivial | omega | (simp only [ob, ln, bdv, sv] at *; omega) | ((try clear hK K); (repeat' first | apply And.intro | intro _) <;> first | trivial | omega | assumption | solve_by_elim | (apply bd_getD <;> first | assumption | decide) | (apply bd_subL <;> first | assumption | decide) | (simp only [ob, ln, bdv, sv] at *; first | omega | assumption | (simp_all; done) | grind [spec_l30Find_lt]))), hK _ ?_⟩
  clear hK K
  refine AWP.cond rfl (fun hb => ?_) (fun hb => ?_)
  · first | simp only [hb, cond_true] at hR | (simp only [*] at hb; simp only [hb, cond_true] at hR)
    refine AWP.seq ?_
    refine AWP.regS G_ok spec_MarkVisited_DD hc (by kernel_rfl) (fun K hK => ?_); simp only [ea, gv, sv, D_spec_l30Ok, D_spec_l04Day, D_spec_l30Find, reduceCtorEq, reduceIte, Nat.reduceBEq, Nat.reduceAdd, Nat.reduceEqDiff, Nat.reduceLT, Nat.reduceLeDiff, Nat.reduceMul, Nat.reduceSub, BEq.rfl, beq_self_eq_true, Int.reduceToNat]
    first | refine hK _ ?_ | refine ⟨by (first | trivial | omega | (simp only [ob, ln, bdv, sv] at *; omega) | ((try clear hK K); (repeat' first | apply And.intro | intro _) <;> first | trivial | omega | assumption | solve_by_elim | (apply bd_getD <;> first | assumption | decide) | (apply bd_subL <;> first | assumption | decide) | (simp only [ob, ln, bdv, sv] at *; first | omega | assumption | (simp_all; done) | grind [spec_l30Find_lt]))), hK _ ?_⟩
    clear hK K
    refine AWP.ret ?_
    subst hR
    (simp only [en, si, ea, gv, sv, hk, reduceCtorEq, reduceIte, Nat.reduceBEq, Nat.reduceAdd, Nat.reduceEqDiff, Nat.reduceLT, Nat.reduceLeDiff, Nat.reduceMul, Nat.reduceSub, BEq.rfl, beq_self_eq_true, Int.reduceToNat]; first | done | trivial | (and_intros <;> first | rfl | trivial | omega | (rw [IntKind.wrap_i64]; omega) | (simp only [ln]; done) | (simp only [ob, ln, bdv, sv] at *; first | omega | grind [spec_l30Find_lt]) | (left; intro j hj; simp only [pw, Bool.cond_eq_ite, Bool.and_eq_true, decide_eq_true_eq]; (repeat' split) <;> simp [putL, NoBorL, NoBor]) | (intro j hj; simp only [pw, Bool.cond_eq_ite, Bool.and_eq_true, decide_eq_true_eq]; (try rw [subL_getD _ _ _ _ (by first | assumption | omega)]); (try rw [clearL_getD _ _ _ _ (by first | omega | (simp only [ob, ln, bdv] at *; omega))]); (repeat' split) <;> first | rfl | omega | exact simOL_refl _ | (simp_all; done) | (simp_all; rfl) | (simp_all; omega) | (simp_all; exact simOL_refl _) | (simp [putL, NoBorL, NoBor]; done))))
  · first | simp only [hb, cond_false] at hR | (simp only [*] at hb; simp only [hb, cond_false] at hR)
    refine AWP.skip ?_
    refine AWP.seq ?_
    refine AWP.seq ?_
    refine AWP.regS G_ok spec_MarkVisited_DD hc (by kernel_rfl) (fun K hK => ?_); simp only [ea, gv, sv, D_spec_l30Ok, D_spec_l04Day, D_spec_l30Find, reduceCtorEq, reduceIte, Nat.reduceBEq, Nat.reduceAdd, Nat.reduceEqDiff, Nat.reduceLT, Nat.reduceLeDiff, Nat.reduceMul, Nat.reduceSub, BEq.rfl, beq_self_eq_true, Int.reduceToNat]
    first | refine hK _ ?_ | refine ⟨by (first | trivial | omega | (simp only [ob, ln, bdv, sv] at *; omega) | ((try clear hK K); (repeat' first | apply And.intro | intro _) <;> first | trivial | omega | assumption | solve_by_elim | (apply bd_getD <;> first | assumption | decide) | (apply bd_subL <;> first | assumption | decide) | (simp only [ob, ln, bdv, sv] at *; first | omega | assumption | (simp_all; done) | grind [spec_l30Find_lt]))), hK _ ?_⟩
    clear hK K
    refine AWP.cond rfl (fun hb => ?_) (fun hb => ?_)
    · first | simp only [hb, cond_true] at hR | (simp only [*] at hb; simp only [hb, cond_true] at hR)
      refine AWP.seq ?_
      refine AWP.regS G_ok spec_MarkVisited_DD hc (by kernel_rfl) (fun K hK => ?_); simp only [ea, gv, sv, D_spec_l30Ok, D_spec_l04Day, D_spec_l30Find, reduceCtorEq, reduceIte, Nat.reduceBEq, Nat.reduceAdd, Nat.reduceEqDiff, Nat.reduceLT, Nat.reduceLeDiff, Nat.reduceMul, Nat.reduceSub, BEq.rfl, beq_self_eq_true, Int.reduceToNat]
      first | refine hK _ ?_ | refine ⟨by (first | trivial | omega | (simp only [ob, ln, bdv, sv] at *; omega) | ((try clear hK K); (repeat' first | apply And.intro | intro _) <;> first | trivial | omega | assumption | solve_by_elim | (apply bd_getD <;> first | assumption | decide) | (apply bd_subL <;> first | assumption | decide) | (simp only [ob, ln, bdv, sv] at *; first | omega | assumption | (simp_all; done) | grind [spec_l30Find_lt]))), hK _ ?_⟩
      clear hK K
      refine AWP.ret ?_
      subst hR
      (simp only [en, si, ea, gv, sv, hk, reduceCtorEq, reduceIte, Nat.reduceBEq, Nat.reduceAdd, Nat.reduceEqDiff, Nat.reduceLT, Nat.reduceLeDiff, Nat.reduceMul, Nat.reduceSub, BEq.rfl, beq_self_eq_true, Int.reduceToNat]; first | done | trivial | (and_intros <;> first | rfl | trivial | omega | (rw [IntKind.wrap_i64]; omega) | (simp only [ln]; done) | (simp only [ob, ln, bdv, sv] at *; first | omega | grind [spec_l30Find_lt]) | (left; intro j hj; simp only [pw, Bool.cond_eq_ite, Bool.and_eq_true, decide_eq_true_eq]; (repeat' split) <;> simp [putL, NoBorL, NoBor]) | (intro j hj; simp only [pw, Bool.cond_eq_ite, Bool.and_eq_true, decide_eq_true_eq]; (try rw [subL_getD _ _ _ _ (by first | assumption | omega)]); (try rw [clearL_getD _ _ _ _ (by first | omega | (simp only [ob, ln, bdv] at *; omega))]); (repeat' split) <;> first | rfl | omega | exact simOL_refl _ | (simp_all; done) | (simp_all; rfl) | (simp_all; omega) | (simp_all; exact simOL_refl _) | (simp [putL, NoBorL, NoBor]; done))))
    · first | simp only [hb, cond_false] at hR | (simp only [*] at hb; simp only [hb, cond_false] at hR)
      refine AWP.skip ?_
      refine AWP.seq ?_
      refine AWP.regS G_ok spec_MarkVisited_DD hc (by kernel_rfl) (fun K hK => ?_); simp only [ea, gv, sv, D_spec_l30Ok, D_spec_l04Day, D_spec_l30Find, reduceCtorEq, reduceIte, Nat.reduceBEq, Nat.reduceAdd, Nat.reduceEqDiff, Nat.reduceLT, Nat.reduceLeDiff, Nat.reduceMul, Nat.reduceSub, BEq.rfl, beq_self_eq_true, Int.reduceToNat]
      first | refine hK _ ?_ | refine ⟨by (first | trivial | omega | (simp only [ob, ln, bdv, sv] at *; omega) | ((try clear hK K); (repeat' first | apply And.intro | intro _) <;> first | trivial | omega | assumption | solve_by_elim | (apply bd_getD <;> first | assumption | decide) | (apply bd_subL <;> first | assumption | decide) | (simp only [ob, ln, bdv, sv] at *; first | omega | assumption | (simp_all; done) | grind [spec_l30Find_lt]))), hK _ ?_⟩
      clear hK K
      refine AWP.seq ?_
      refine AWP.seq ?_
      refine AWP.regS G_ok spec_MarkVisited_DD hc (by kernel_rfl) (fun K hK => ?_); simp only [ea, gv, sv, D_spec_l30Ok, D_spec_l04Day, D_spec_l30Find, reduceCtorEq, reduceIte, Nat.reduceBEq, Nat.reduceAdd, Nat.reduceEqDiff, Nat.reduceLT, Nat.reduceLeDiff, Nat.reduceMul, Nat.reduceSub, BEq.rfl, beq_self_eq_true, Int.reduceToNat]
      first | refine hK _ ?_ | refine ⟨by (first | trivial | omega | (simp only [ob, ln, bdv, sv] at *; omega) | ((try clear hK K); (repeat' first | apply And.intro | intro _) <;> first | trivial | omega | assumption | solve_by_elim | (apply bd_getD <;> first | assumption | decide) | (apply bd_subL <;> first | assumption | decide) | (simp only [ob, ln, bdv, sv] at *; first | omega | assumption | (simp_all; done) | grind [spec_l30Find_lt]))), hK _ ?_⟩
      clear hK K
      refine AWP.cond rfl (fun hb => ?_) (fun hb => ?_)
      · first | simp only [hb, cond_true] at hR | (simp only [*] at hb; simp only [hb, cond_true] at hR)
        refine AWP.seq ?_
        refine AWP.regS G_ok spec_MarkVisited_DD hc (by kernel_rfl) (fun K hK => ?_); simp only [ea, gv, sv, D_spec_l30Ok, D_spec_l04Day, D_spec_l30Find, reduceCtorEq, reduceIte, Nat.reduceBEq, Nat.reduceAdd, Nat.reduceEqDiff, Nat.reduceLT, Nat.reduceLeDiff, Nat.reduceMul, Nat.reduceSub, BEq.rfl, beq_self_eq_true, Int.reduceToNat]
        first | refine hK _ ?_ | refine ⟨by (first | trivial | omega | (simp only [ob, ln, bdv, sv] at *; omega) | ((try clear hK K); (repeat' first | apply And.intro | intro _) <;> first | trivial | omega | assumption | solve_by_elim | (apply bd_getD <;> first | assumption | decide) | (apply bd_subL <;> first | assumption | decide) | (simp only [ob, ln, bdv, sv] at *; first | omega | assumption | (simp_all; done) | grind [spec_l30Find_lt]))), hK _ ?_⟩
        clear hK K
        refine AWP.ret ?_
        subst hR
        (simp only [en, si, ea, gv, sv, hk, reduceCtorEq, reduceIte, Nat.reduceBEq, Nat.reduceAdd, Nat.reduceEqDiff, Nat.reduceLT, Nat.reduceLeDiff, Nat.reduceMul, Nat.reduceSub, BEq.rfl, beq_self_eq_true, Int.reduceToNat]; first | done | trivial | (and_intros <;> first | rfl | trivial | omega | (rw [IntKind.wrap_i64]; omega) | (simp only [ln]; done) | (simp only [ob, ln, bdv, sv] at *; first | omega | grind [spec_l30Find_lt]) | (left; intro j hj; simp only [pw, Bool.cond_eq_ite, Bool.and_eq_true, decide_eq_true_eq]; (repeat' split) <;> simp [putL, NoBorL, NoBor]) | (intro j hj; simp only [pw, Bool.cond_eq_ite, Bool.and_eq_true, decide_eq_true_eq]; (try rw [subL_getD _ _ _ _ (by first | assumption | omega)]); (try rw [clearL_getD _ _ _ _ (by first | omega | (simp only [ob, ln, bdv] at *; omega))]); (repeat' split) <;> first | rfl | omega | exact simOL_refl _ | (simp_all; done) | (simp_all; rfl) | (simp_all; omega) | (simp_all; exact simOL_refl _) | (simp [putL, NoBorL, NoBor]; done))))
      · first | simp only [hb, cond_false] at hR | (simp only [*] at hb; simp only [hb, cond_false] at hR)
        refine AWP.skip ?_
        refine AWP.seq ?_
        refine AWP.seq ?_
        refine AWP.regS G_ok spec_MarkVisited_DD hc (by kernel_rfl) (fun K hK => ?_); simp only [ea, gv, sv, D_spec_l30Ok, D_spec_l04Day, D_spec_l30Find, reduceCtorEq, reduceIte, Nat.reduceBEq, Nat.reduceAdd, Nat.reduceEqDiff, Nat.reduceLT, Nat.reduceLeDiff, Nat.reduceMul, Nat.reduceSub, BEq.rfl, beq_self_eq_true, Int.reduceToNat]
        first | refine hK _ ?_ | refine ⟨by (first | trivial | omega | (simp only [ob, ln, bdv, sv] at *; omega) | ((try clear hK K); (repeat' first | apply And.intro | intro _) <;> first | trivial | omega | assumption | solve_by_elim | (apply bd_getD <;> first | assumption | decide) | (apply bd_subL <;> first | assumption | decide) | (simp only [ob, ln, bdv, sv] at *; first | omega | assumption | (simp_all; done) | grind [spec_l30Find_lt]))), hK _ ?_⟩
        clear hK K
        refine AWP.cond rfl (fun hb => ?_) (fun hb => ?_)
        · first | simp only [hb, cond_true] at hR | (simp only [*] at hb; simp only [hb, cond_true] at hR)
          refine AWP.seq ?_
          refine AWP.regS G_ok spec_MarkVisited_DD hc (by kernel_rfl) (fun K hK => ?_); simp only [ea, gv, sv, D_spec_l30Ok, D_spec_l04Day, D_spec_l30Find, reduceCtorEq, reduceIte, Nat.reduceBEq, Nat.reduceAdd, Nat.reduceEqDiff, Nat.reduceLT, Nat.reduceLeDiff, Nat.reduceMul, Nat.reduceSub, BEq.rfl, beq_self_eq_true, Int.reduceToNat]
          first | refine hK _ ?_ | refine ⟨by (first | trivial | omega | (simp only [ob, ln, bdv, sv] at *; omega) | ((try clear hK K); (repeat' first | apply And.intro | intro _) <;> first | trivial | omega | assumption | solve_by_elim | (apply bd_getD <;> first | assumption | decide) | (apply bd_subL <;> first | assumption | decide) | (simp only [ob, ln, bdv, sv] at *; first | omega | assumption | (simp_all; done) | grind [spec_l30Find_lt]))), hK _ ?_⟩
          clear hK K
          refine AWP.ret ?_
          subst hR
          (simp only [en, si, ea, gv, sv, hk, reduceCtorEq, reduceIte, Nat.reduceBEq, Nat.reduceAdd, Nat.reduceEqDiff, Nat.reduceLT, Nat.reduceLeDiff, Nat.reduceMul, Nat.reduceSub, BEq.rfl, beq_self_eq_true, Int.reduceToNat]; first | done | trivial | (and_intros <;> first | rfl | trivial | omega | (rw [IntKind.wrap_i64]; omega) | (simp only [ln]; done) | (simp only [ob, ln, bdv, sv] at *; first | omega | grind [spec_l30Find_lt]) | (left; intro j hj; simp only [pw, Bool.cond_eq_ite, Bool.and_eq_true, decide_eq_true_eq]; (repeat' split) <;> simp [putL, NoBorL, NoBor]) | (intro j hj; simp only [pw, Bool.cond_eq_ite, Bool.and_eq_true, decide_eq_true_eq]; (try rw [subL_getD _ _ _ _ (by first | assumption | omega)]); (try rw [clearL_getD _ _ _ _ (by first | omega | (simp only [ob, ln, bdv] at *; omega))]); (repeat' split) <;> first | rfl | omega | exact simOL_refl _ | (simp_all; done) | (simp_all; rfl) | (simp_all; omega) | (simp_all; exact simOL_refl _) | (simp [putL, NoBorL, NoBor]; done))))
        · first | simp only [hb, cond_false] at hR | (simp only [*] at hb; simp only [hb, cond_false] at hR)
          refine AWP.skip ?_
          refine AWP.seq ?_
          refine AWP.regS G_ok spec_MarkVisited_DD hc (by kernel_rfl) (fun K hK => ?_); simp only [ea, gv, sv, D_spec_l30Ok, D_spec_l04Day, D_spec_l30Find, reduceCtorEq, reduceIte, Nat.reduceBEq, Nat.reduceAdd, Nat.reduceEqDiff, Nat.reduceLT, Nat.reduceLeDiff, Nat.reduceMul, Nat.reduceSub, BEq.rfl, beq_self_eq_true, Int.reduceToNat]
          first | refine hK _ ?_ | refine ⟨by (first | trivial | omega | (simp only [ob, ln, bdv, sv] at *; omega) | ((try clear hK K); (repeat' first | apply And.intro | intro _) <;> first | trivial | omega | assumption | solve_by_elim | (apply bd_getD <;> first | assumption | decide) | (apply bd_subL <;> first | assumption | decide) | (simp only [ob, ln, bdv, sv] at *; first | omega | assumption | (simp_all; done) | grind [spec_l30Find_lt]))), hK _ ?_⟩
          clear hK K
          refine AWP.seq ?_
          refine AWP.regS G_ok spec_MarkVisited_DD hc (by kernel_rfl) (fun K hK => ?_); simp only [ea, gv, sv, D_spec_l30Ok, D_spec_l04Day, D_spec_l30Find, reduceCtorEq, reduceIte, Nat.reduceBEq, Nat.reduceAdd, Nat.reduceEqDiff, Nat.reduceLT, Nat.reduceLeDiff, Nat.reduceMul, Nat.reduceSub, BEq.rfl, beq_self_eq_true, Int.reduceToNat]
          first | refine hK _ ?_ | refine ⟨by (first | trivial | omega | (simp only [ob, ln, bdv, sv] at *; omega) | ((try clear hK K); (repeat' first | apply And.intro | intro _) <;> first | trivial | omega | assumption | solve_by_elim | (apply bd_getD <;> first | assumption | decide) | (apply bd_subL <;> first | assumption | decide) | (simp only [ob, ln, bdv, sv] at *; first | omega | assumption | (simp_all; done) | grind [spec_l30Find_lt]))), hK _ ?_⟩
          clear hK K
          refine AWP.seq ?_
          refine AWP.regS G_ok spec_MarkVisited_DD hc (by kernel_rfl) (fun K hK => ?_); simp only [ea, gv, sv, D_spec_l30Ok, D_spec_l04Day, D_spec_l30Find, reduceCtorEq, reduceIte, Nat.reduceBEq, Nat.reduceAdd, Nat.reduceEqDiff, Nat.reduceLT, Nat.reduceLeDiff, Nat.reduceMul, Nat.reduceSub, BEq.rfl, beq_self_eq_true, Int.reduceToNat]
          first | refine hK _ ?_ | refine ⟨by (first | trivial | omega | (simp only [ob, ln, bdv, sv] at *; omega) | ((try clear hK K); (repeat' first | apply And.intro | intro _) <;> first | trivial | omega | assumption | solve_by_elim | (apply bd_getD <;> first | assumption | decide) | (apply bd_subL <;> first | assumption | decide) | (simp only [ob, ln, bdv, sv] at *; first | omega | assumption | (simp_all; done) | grind [spec_l30Find_lt]))), hK _ ?_⟩
          clear hK K
          refine AWP.ret ?_
          subst hR
          (simp only [en, si, ea, gv, sv, hk, reduceCtorEq, reduceIte, Nat.reduceBEq, Nat.reduceAdd, Nat.reduceEqDiff, Nat.reduceLT, Nat.reduceLeDiff, Nat.reduceMul, Nat.reduceSub, BEq.rfl, beq_self_eq_true, Int.reduceToNat]; first | done | trivial | (and_intros <;> first | rfl | trivial | omega | (rw [IntKind.wrap_i64]; omega) | (simp only [ln]; done) | (simp only [ob, ln, bdv, sv] at *; first | omega | grind [spec_l30Find_lt]) | (left; intro j hj; simp only [pw, Bool.cond_eq_ite, Bool.and_eq_true, decide_eq_true_eq]; (repeat' split) <;> simp [putL, NoBorL, NoBor]) | (intro j hj; simp only [pw, Bool.cond_eq_ite, Bool.and_eq_true, decide_eq_true_eq]; (try rw [subL_getD _ _ _ _ (by first | assumption | omega)]); (try rw [clearL_getD _ _ _ _ (by first | omega | (simp only [ob, ln, bdv] at *; omega))]); (repeat' split) <;> first | rfl | omega | exact simOL_refl _ | (simp_all; done) | (simp_all; rfl) | (simp_all; omega) | (simp_all; exact simOL_refl _) | (simp [putL, NoBorL, NoBor]; done))))

def D_spec_MarkVisited : DF
  | [x0, x1, x2] => some (.tup [ownL 83 3 eVisit ((spec_MarkVisited (rdL dVisit x0) (rdI x1) (rdI x2)).1), .int .i64 ((spec_MarkVisited (rdL dVisit x0) (rdI x1) (rdI x2)).2)], false, [wL 3 eVisit dVisit x0, wI .i64 x1, wI .i64 x2, (rdL dVisit x0).length < 1099511627776])
  | _ => none
def Dz_spec_MarkVisited : DF
  | [x0, x1, x2] => some (.tup [ownL 83 3 eVisit ((spec_MarkVisited (rdL dVisit x0) (rdI x1) (rdI x2)).1), .int .i64 ((spec_MarkVisited (rdL dVisit x0) (rdI x1) (rdI x2)).2)], true, [wL 3 eVisit dVisit x0, wI .i64 x1, wI .i64 x2, (rdL dVisit x0).length < 1099511627776])
  | _ => none
theorem D_spec_MarkVisited_ok : OkD Try.prog 20 D_spec_MarkVisited := by
  intro xs r z ob h ho
  unfold D_spec_MarkVisited at h
  split at h
  · simp only [Option.some.injEq, Prod.mk.injEq] at h
    obtain ⟨rfl, rfl, rfl⟩ := h
    obtain ⟨h0, h1, h2, hb0, _⟩ := ho
    exact Den.sim (spec_MarkVisited_den _ _ _ hb0) (simOL_cons (wL_sim h0).1 <| simOL_cons (wI_sim h1).1 <| simOL_cons (wI_sim h2).1 <| trivial) (noIdL_cons (wL_sim h0).2 <| noIdL_cons (wI_sim h1).2 <| noIdL_cons (wI_sim h2).2 <| rfl) rfl
  · cases h

theorem Dz_spec_MarkVisited_ok : OkD Try.prog 20 Dz_spec_MarkVisited := by
  intro xs r z ob h ho
  unfold Dz_spec_MarkVisited at h
  split at h
  · simp only [Option.some.injEq, Prod.mk.injEq] at h
    obtain ⟨rfl, rfl, rfl⟩ := h
    obtain ⟨h0, h1, h2, hb0, _⟩ := ho
    exact Den.sim (spec_MarkVisited_den _ _ _ hb0) (simOL_cons (wL_sim h0).1 <| simOL_cons (wI_sim h1).1 <| simOL_cons (wI_sim h2).1 <| trivial) (noIdL_cons (wL_sim h0).2 <| noIdL_cons (wI_sim h1).2 <| noIdL_cons (wI_sim h2).2 <| rfl) rfl
  · cases h
end Go.Ab

namespace Go.Ab
open Go Go.Proofs
theorem spec_MarkVisited_len (a : List Visit) (b c : Int) : (spec_MarkVisited a b c).1.length ≤ a.length := by
  unfold spec_MarkVisited
  simp only [Bool.cond_eq_ite]
  (repeat' split) <;> simp [-List.getD_eq_getElem?_getD]
end Go.Ab

namespace Go.Ab
open Go Go.Proofs
theorem laws_FnExactMarkVisited_DD : DOk Try.prog (DD [(19, dP D_laws_szVisitS), (20, dP D_spec_MarkVisited), (21, dP D_laws_toVisitS), (22, dP D_impl_MarkVisited), (23, dP D_laws_eqVisitS), (24, dM [true, false] D_laws_markVisitS), (25, dP D_laws_heldVisitS)]) := DD_cons D_laws_szVisitS_ok.e <| DD_cons D_spec_MarkVisited_ok.e <| DD_cons D_laws_toVisitS_ok.e <| DD_cons D_impl_MarkVisited_ok.e <| DD_cons D_laws_eqVisitS_ok.e <| DD_cons D_laws_markVisitS_ok.e <| DD_cons D_laws_heldVisitS_ok.e <| DD_nil _
def laws_FnExactMarkVisited (a0 : (List Visit)) (a1 : Int) (a2 : Int) : Bool :=
  (bif decide ((laws_szVisitS a0 1048576) < 0) then true else (bif ((!(laws_eqVisitS ((impl_MarkVisited (laws_toVisitS a0) a1 a2).1) ((spec_MarkVisited (laws_toVisitS a0) a1 a2).1))) || (((impl_MarkVisited (laws_toVisitS a0) a1 a2).2) != ((spec_MarkVisited (laws_toVisitS a0) a1 a2).2))) then false else (bif (!(laws_eqVisitS (laws_toVisitS a0) (laws_toVisitS a0))) then false else (bif ((decide (((laws_markVisitS (laws_toVisitS a0) 1).1) < 0) || (!(laws_eqVisitS ((impl_MarkVisited (laws_toVisitS a0) a1 a2).1) ((spec_MarkVisited (laws_toVisitS a0) a1 a2).1)))) || (((impl_MarkVisited (laws_toVisitS a0) a1 a2).2) != ((spec_MarkVisited (laws_toVisitS a0) a1 a2).2))) then false else (bif decide ((laws_heldVisitS ((laws_markVisitS ((impl_MarkVisited (laws_toVisitS a0) a1 a2).1) 1).2) 1) < 0) then false else (bif ((laws_heldVisitS ((laws_markVisitS ((impl_MarkVisited (laws_toVisitS a0) a1 a2).1) 1).2) 1) != ((laws_markVisitS ((impl_MarkVisited (laws_toVisitS a0) a1 a2).1) 1).1)) then false else true))))))

theorem laws_FnExactMarkVisited_den (a0 : (List Visit)) (a1 : Int) (a2 : Int) (hb0 : a0.length < 9223372036854775808) : Den Try.prog 4 [encL 3 eVisit a0, .int .i64 a1, .int .i64 a2] (.bool (laws_FnExactMarkVisited a0 a1 a2)) := by
  generalize hR : laws_FnExactMarkVisited a0 a1 a2 = r
  unfold laws_FnExactMarkVisited at hR
  refine den_intro G_ok Try.func4 (by kernel_rfl) rfl Try.ntmps4 (by rw [Try.results4]) (by simp) rfl ?_
  intro c hc hk
  simp only [pars, Nat.zero_add]
  have hf0 := laws_szVisitS_facts a0 (1048576) (by omega) (by omega) hb0
  refine AWP.seq ?_
  refine AWP.regS G_ok laws_FnExactMarkVisited_DD hc (by kernel_rfl) (fun K hK => ?_); simp only [ea, absV, absVL, gv, sv, laws_markVisitS_sub, D_laws_szVisitS, D_spec_MarkVisited, D_laws_toVisitS, D_impl_MarkVisited, D_laws_eqVisitS, D_laws_markVisitS, D_laws_heldVisitS, reduceCtorEq, reduceIte, Nat.reduceBEq, Nat.reduceAdd, Nat.reduceEqDiff, Nat.reduceLT, Nat.reduceLeDiff, Nat.reduceMul, Nat.reduceSub, BEq.rfl, beq_self_eq_true, Int.reduceToNat]
  first | refine hK _ ?_ | refine ⟨by (first | trivial | omega | (simp only [ob, ln, bdv, laws_toVisitS_id, sv] at *; omega) | ((try clear hK K); (repeat' first | apply And.intro | intro _) <;> first | trivial | omega | assumption | solve_by_elim | (apply bd_getD <;> first | assumption | decide) | (apply bd_subL <;> first | assumption | decide) | (simp only [ob, ln, bdv, laws_toVisitS_id, sv] at *; first | omega | assumption | (simp_all; done) | grind [spec_MarkVisited_len, impl_MarkVisited_len, laws_markVisitS_len]))), hK _ ?_⟩
  clear hK K
  refine AWP.seq ?_
  refine AWP.regS G_ok laws_FnExactMarkVisited_DD hc (by kernel_rfl) (fun K hK => ?_); simp only [ea, absV, absVL, gv, sv, laws_markVisitS_sub, D_laws_szVisitS, D_spec_MarkVisited, D_laws_toVisitS, D_impl_MarkVisited, D_laws_eqVisitS, D_laws_markVisitS, D_laws_heldVisitS, reduceCtorEq, reduceIte, Nat.reduceBEq, Nat.reduceAdd, Nat.reduceEqDiff, Nat.reduceLT, Nat.reduceLeDiff, Nat.reduceMul, Nat.reduceSub, BEq.rfl, beq_self_eq_true, Int.reduceToNat]
  first | refine hK _ ?_ | refine ⟨by (first | trivial | omega | (simp only [ob, ln, bdv, laws_toVisitS_id, sv] at *; omega) | ((try clear hK K); (repeat' first | apply And.intro | intro _) <;> first | trivial | omega | assumption | solve_by_elim | (apply bd_getD <;> first | assumption | decide) | (apply bd_subL <;> first | assumption | decide) | (simp only [ob, ln, bdv, laws_toVisitS_id, sv] at *; first | omega | assumption | (simp_all; done) | grind [spec_MarkVisited_len, impl_MarkVisited_len, laws_markVisitS_len]))), hK _ ?_⟩
  clear hK K
  refine AWP.seq ?_
  refine AWP.regS G_ok laws_FnExactMarkVisited_DD hc (by kernel_rfl) (fun K hK => ?_); simp only [ea, absV, absVL, gv, sv, laws_markVisitS_sub, D_laws_szVisitS, D_spec_MarkVisited, D_laws_toVisitS, D_impl_MarkVisited, D_laws_eqVisitS, D_laws_markVisitS, D_laws_heldVisitS, reduceCtorEq, reduceIte, Nat.reduceBEq, Nat.reduceAdd, Nat.reduceEqDiff, Nat.reduceLT, Nat.reduceLeDiff, Nat.reduceMul, Nat.reduceSub, BEq.rfl, beq_self_eq_true, Int.reduceToNat]
  first | refine hK _ ?_ | refine ⟨by (first | trivial | omega | (simp only [ob, ln, bdv, laws_toVisitS_id, sv] at *; omega) | ((try clear hK K); (repeat' first | apply And.intro | intro _) <;> first | trivial | omega | assumption | solve_by_elim | (apply bd_getD <;> first | assumption | decide) | (apply bd_subL <;> first | assumption | decide) | (simp only [ob, ln, bdv, laws_toVisitS_id, sv] at *; first | omega | assumption | (simp_all; done) | grind [spec_MarkVisited_len, impl_MarkVisited_len, laws_markVisitS_len]))), hK _ ?_⟩
  clear hK K
  refine AWP.seq ?_
  refine AWP.seq ?_
  refine AWP.regS G_ok laws_FnExactMarkVisited_DD hc (by kernel_rfl) (fun K hK => ?_); simp only [ea, absV, absVL, gv, sv, laws_markVisitS_sub, D_laws_szVisitS, D_spec_MarkVisited, D_laws_toVisitS, D_impl_MarkVisited, D_laws_eqVisitS, D_laws_markVisitS, D_laws_heldVisitS, reduceCtorEq, reduceIte, Nat.reduceBEq, Nat.reduceAdd, Nat.reduceEqDiff, Nat.reduceLT, Nat.reduceLeDiff, Nat.reduceMul, Nat.reduceSub, BEq.rfl, beq_self_eq_true, Int.reduceToNat]
  first | refine hK _ ?_ | refine ⟨by (first | trivial | omega | (simp only [ob, ln, bdv, laws_toVisitS_id, sv] at *; omega) | ((try clear hK K); (repeat' first | apply And.intro | intro _) <;> first | trivial | omega | assumption | solve_by_elim | (apply bd_getD <;> first | assumption | decide) | (apply bd_subL <;> first | assumption | decide) | (simp only [ob, ln, bdv, laws_toVisitS_id, sv] at *; first | omega | assumption | (simp_all; done) | grind [spec_MarkVisited_len, impl_MarkVisited_len, laws_markVisitS_len]))), hK _ ?_⟩
  clear hK K
  refine AWP.cond rfl (fun hb => ?_) (fun hb => ?_)
  · first | simp only [hb, cond_true] at hR | (simp only [*] at hb; simp only [hb, cond_true] at hR)
    refine AWP.seq ?_
    refine AWP.regS G_ok laws_FnExactMarkVisited_DD hc (by kernel_rfl) (fun K hK => ?_); simp only [ea, absV, absVL, gv, sv, laws_markVisitS_sub, D_laws_szVisitS, D_spec_MarkVisited, D_laws_toVisitS, D_impl_MarkVisited, D_laws_eqVisitS, D_laws_markVisitS, D_laws_heldVisitS, reduceCtorEq, reduceIte, Nat.reduceBEq, Nat.reduceAdd, Nat.reduceEqDiff, Nat.reduceLT, Nat.reduceLeDiff, Nat.reduceMul, Nat.reduceSub, BEq.rfl, beq_self_eq_true, Int.reduceToNat]
    first | refine hK _ ?_ | refine ⟨by (first | trivial | omega | (simp only [ob, ln, bdv, laws_toVisitS_id, sv] at *; omega) | ((try clear hK K); (repeat' first | apply And.intro | intro _) <;> first | trivial | omega | assumption | solve_by_elim | (apply bd_getD <;> first | assumption | decide) | (apply bd_subL <;> first | assumption | decide) | (simp only [ob, ln, bdv, laws_toVisitS_id, sv] at *; first | omega | assumption | (simp_all; done) | grind [spec_MarkVisited_len, impl_MarkVisited_len, laws_markVisitS_len]))), hK _ ?_⟩
    clear hK K
    refine AWP.ret ?_
    subst hR
    (simp only [en, si, ea, gv, sv, hk, reduceCtorEq, reduceIte, Nat.reduceBEq, Nat.reduceAdd, Nat.reduceEqDiff, Nat.reduceLT, Nat.reduceLeDiff, Nat.reduceMul, Nat.reduceSub, BEq.rfl, beq_self_eq_true, Int.reduceToNat]; first | done | trivial | (and_intros <;> first | rfl | trivial | omega | (rw [IntKind.wrap_i64]; omega) | (simp only [ln]; done) | (simp only [ob, ln, bdv, laws_toVisitS_id, sv] at *; first | omega | grind [spec_MarkVisited_len, impl_MarkVisited_len, laws_markVisitS_len]) | (left; intro j hj; simp only [pw, Bool.cond_eq_ite, Bool.and_eq_true, decide_eq_true_eq]; (repeat' split) <;> simp [putL, NoBorL, NoBor]) | (intro j hj; simp only [pw, Bool.cond_eq_ite, Bool.and_eq_true, decide_eq_true_eq]; (try rw [subL_getD _ _ _ _ (by first | assumption | omega)]); (try rw [clearL_getD _ _ _ _ (by first | omega | (simp only [ob, ln, bdv] at *; omega))]); (repeat' split) <;> first | rfl | omega | exact simOL_refl _ | (simp_all; done) | (simp_all; rfl) | (simp_all; omega) | (simp_all; exact simOL_refl _) | (simp [putL, NoBorL, NoBor]; done))))
  · first | simp only [hb, cond_false] at hR | (simp only [*] at hb; simp only [hb, cond_false] at hR)
    refine AWP.skip ?_
    refine AWP.seq ?_
    refine AWP.regS G_ok laws_FnExactMarkVisited_DD hc (by kernel_rfl) (fun K hK => ?_); simp only [ea, absV, absVL, gv, sv, laws_markVisitS_sub, D_laws_szVisitS, D_spec_MarkVisited, D_laws_toVisitS, D_impl_MarkVisited, D_laws_eqVisitS, D_laws_markVisitS, D_laws_heldVisitS, reduceCtorEq, reduceIte, Nat.reduceBEq, Nat.reduceAdd, Nat.reduceEqDiff, Nat.reduceLT, Nat.reduceLeDiff, Nat.reduceMul, Nat.reduceSub, BEq.rfl, beq_self_eq_true, Int.reduceToNat]
    first | refine hK _ ?_ | refine ⟨by (first | trivial | omega | (simp only [ob, ln, bdv, laws_toVisitS_id, sv] at *; omega) | ((try clear hK K); (repeat' first | apply And.intro | intro _) <;> first | trivial | omega | assumption | solve_by_elim | (apply bd_getD <;> first | assumption | decide) | (apply bd_subL <;> first | assumption | decide) | (simp only [ob, ln, bdv, laws_toVisitS_id, sv] at *; first | omega | assumption | (simp_all; done) | grind [spec_MarkVisited_len, impl_MarkVisited_len, laws_markVisitS_len]))), hK _ ?_⟩
    clear hK K
    refine AWP.seq ?_
    refine AWP.regS G_ok laws_FnExactMarkVisited_DD hc (by kernel_rfl) (fun K hK => ?_); simp only [ea, absV, absVL, gv, sv, laws_markVisitS_sub, D_laws_szVisitS, D_spec_MarkVisited, D_laws_toVisitS, D_impl_MarkVisited, D_laws_eqVisitS, D_laws_markVisitS, D_laws_heldVisitS, reduceCtorEq, reduceIte, Nat.reduceBEq, Nat.reduceAdd, Nat.reduceEqDiff, Nat.reduceLT, Nat.reduceLeDiff, Nat.reduceMul, Nat.reduceSub, BEq.rfl, beq_self_eq_true, Int.reduceToNat]
    first | refine hK _ ?_ | refine ⟨by (first | trivial | omega | (simp only [ob, ln, bdv, laws_toVisitS_id, sv] at *; omega) | ((try clear hK K); (repeat' first | apply And.intro | intro _) <;> first | trivial | omega | assumption | solve_by_elim | (apply bd_getD <;> first | assumption | decide) | (apply bd_subL <;> first | assumption | decide) | (simp only [ob, ln, bdv, laws_toVisitS_id, sv] at *; first | omega | assumption | (simp_all; done) | grind [spec_MarkVisited_len, impl_MarkVisited_len, laws_markVisitS_len]))), hK _ ?_⟩
    clear hK K
    refine AWP.seq ?_
    refine AWP.regS G_ok laws_FnExactMarkVisited_DD hc (by kernel_rfl) (fun K hK => ?_); simp only [ea, absV, absVL, gv, sv, laws_markVisitS_sub, D_laws_szVisitS, D_spec_MarkVisited, D_laws_toVisitS, D_impl_MarkVisited, D_laws_eqVisitS, D_laws_markVisitS, D_laws_heldVisitS, reduceCtorEq, reduceIte, Nat.reduceBEq, Nat.reduceAdd, Nat.reduceEqDiff, Nat.reduceLT, Nat.reduceLeDiff, Nat.reduceMul, Nat.reduceSub, BEq.rfl, beq_self_eq_true, Int.reduceToNat]
    first | refine hK _ ?_ | refine ⟨by (first | trivial | omega | (simp only [ob, ln, bdv, laws_toVisitS_id, sv] at *; omega) | ((try clear hK K); (repeat' first | apply And.intro | intro _) <;> first | trivial | omega | assumption | solve_by_elim | (apply bd_getD <;> first | assumption | decide) | (apply bd_subL <;> first | assumption | decide) | (simp only [ob, ln, bdv, laws_toVisitS_id, sv] at *; first | omega | assumption | (simp_all; done) | grind [spec_MarkVisited_len, impl_MarkVisited_len, laws_markVisitS_len]))), hK _ ?_⟩
    clear hK K
    refine AWP.seq ?_
    refine AWP.seq ?_
    refine AWP.regS G_ok laws_FnExactMarkVisited_DD hc (by kernel_rfl) (fun K hK => ?_); simp only [ea, absV, absVL, gv, sv, laws_markVisitS_sub, D_laws_szVisitS, D_spec_MarkVisited, D_laws_toVisitS, D_impl_MarkVisited, D_laws_eqVisitS, D_laws_markVisitS, D_laws_heldVisitS, reduceCtorEq, reduceIte, Nat.reduceBEq, Nat.reduceAdd, Nat.reduceEqDiff, Nat.reduceLT, Nat.reduceLeDiff, Nat.reduceMul, Nat.reduceSub, BEq.rfl, beq_self_eq_true, Int.reduceToNat]
    first | refine hK _ ?_ | refine ⟨by (first | trivial | omega | (simp only [ob, ln, bdv, laws_toVisitS_id, sv] at *; omega) | ((try clear hK K); (repeat' first | apply And.intro | intro _) <;> first | trivial | omega | assumption | solve_by_elim | (apply bd_getD <;> first | assumption | decide) | (apply bd_subL <;> first | assumption | decide) | (simp only [ob, ln, bdv, laws_toVisitS_id, sv] at *; first | omega | assumption | (simp_all; done) | grind [spec_MarkVisited_len, impl_MarkVisited_len, laws_markVisitS_len]))), hK _ ?_⟩
    clear hK K
    refine AWP.cond rfl (fun hb => ?_) (fun hb => ?_)
    · first | simp only [hb, cond_true] at hR | (simp only [*] at hb; simp only [hb, cond_true] at hR)
      refine AWP.seq ?_
      refine AWP.regS G_ok laws_FnExactMarkVisited_DD hc (by kernel_rfl) (fun K hK => ?_); simp only [ea, absV, absVL, gv, sv, laws_markVisitS_sub, D_laws_szVisitS, D_spec_MarkVisited, D_laws_toVisitS, D_impl_MarkVisited, D_laws_eqVisitS, D_laws_markVisitS, D_laws_heldVisitS, reduceCtorEq, reduceIte, Nat.reduceBEq, Nat.reduceAdd, Nat.reduceEqDiff, Nat.reduceLT, Nat.reduceLeDiff, Nat.reduceMul, Nat.reduceSub, BEq.rfl, beq_self_eq_true, Int.reduceToNat]
      first | refine hK _ ?_ | refine ⟨by (first | trivial | omega | (simp only [ob, ln, bdv, laws_toVisitS_id, sv] at *; omega) | ((try clear hK K); (repeat' first | apply And.intro | intro _) <;> first | trivial | omega | assumption | solve_by_elim | (apply bd_getD <;> first | assumption | decide) | (apply bd_subL <;> first | assumption | decide) | (simp only [ob, ln, bdv, laws_toVisitS_id, sv] at *; first | omega | assumption | (simp_all; done) | grind [spec_MarkVisited_len, impl_MarkVisited_len, laws_markVisitS_len]))), hK _ ?_⟩
      clear hK K
      refine AWP.ret ?_
      subst hR
      (simp only [en, si, ea, gv, sv, hk, reduceCtorEq, reduceIte, Nat.reduceBEq, Nat.reduceAdd, Nat.reduceEqDiff, Nat.reduceLT, Nat.reduceLeDiff, Nat.reduceMul, Nat.reduceSub, BEq.rfl, beq_self_eq_true, Int.reduceToNat]; first | done | trivial | (and_intros <;> first | rfl | trivial | omega | (rw [IntKind.wrap_i64]; omega) | (simp only [ln]; done) | (simp only [ob, ln, bdv, laws_toVisitS_id, sv] at *; first | omega | grind [spec_MarkVisited_len, impl_MarkVisited_len, laws_markVisitS_len]) | (left; intro j hj; simp only [pw, Bool.cond_eq_ite, Bool.and_eq_true, decide_eq_true_eq]; (repeat' split) <;> simp [putL, NoBorL, NoBor]) | (intro j hj; simp only [pw, Bool.cond_eq_ite, Bool.and_eq_true, decide_eq_true_eq]; (try rw [subL_getD _ _ _ _ (by first | assumption | omega)]); (try rw [clearL_getD _ _ _ _ (by first | omega | (simp only [ob, ln, bdv] at *; omega))]); (repeat' split) <;> first | rfl | omega | exact simOL_refl _ | (simp_all; done) | (simp_all; rfl) | (simp_all; omega) | (simp_all; exact simOL_refl _) | (simp [putL, NoBorL, NoBor]; done))))
    · first | simp only [hb, cond_false] at hR | (simp only [*] at hb; simp only [hb, cond_false] at hR)
      refine AWP.skip ?_
      refine AWP.seq ?_
      refine AWP.seq ?_
      refine AWP.regS G_ok laws_FnExactMarkVisited_DD hc (by kernel_rfl) (fun K hK => ?_); simp only [ea, absV, absVL, gv, sv, laws_markVisitS_sub, D_laws_szVisitS, D_spec_MarkVisited, D_laws_toVisitS, D_impl_MarkVisited, D_laws_eqVisitS, D_laws_markVisitS, D_laws_heldVisitS, reduceCtorEq, reduceIte, Nat.reduceBEq, Nat.reduceAdd, Nat.reduceEqDiff, Nat.reduceLT, Nat.reduceLeDiff, Nat.reduceMul, Nat.reduceSub, BEq.rfl, beq_self_eq_true, Int.reduceToNat]
      first | refine hK _ ?_ | refine ⟨by (first | trivial | omega | (simp only [ob, ln, bdv, laws_toVisitS_id, sv] at *; omega) | ((try clear hK K); (repeat' first | apply And.intro | intro _) <;> first | trivial | omega | assumption | solve_by_elim | (apply bd_getD <;> first | assumption | decide) | (apply bd_subL <;> first | assumption | decide) | (simp only [ob, ln, bdv, laws_toVisitS_id, sv] at *; first | omega | assumption | (simp_all; done) | grind [spec_MarkVisited_len, impl_MarkVisited_len, laws_markVisitS_len]))), hK _ ?_⟩
      clear hK K
      refine AWP.cond rfl (fun hb => ?_) (fun hb => ?_)
      · first | simp only [hb, cond_true] at hR | (simp only [*] at hb; simp only [hb, cond_true] at hR)
        refine AWP.seq ?_
        refine AWP.regS G_ok laws_FnExactMarkVisited_DD hc (by kernel_rfl) (fun K hK => ?_); simp only [ea, absV, absVL, gv, sv, laws_markVisitS_sub, D_laws_szVisitS, D_spec_MarkVisited, D_laws_toVisitS, D_impl_MarkVisited, D_laws_eqVisitS, D_laws_markVisitS, D_laws_heldVisitS, reduceCtorEq, reduceIte, Nat.reduceBEq, Nat.reduceAdd, Nat.reduceEqDiff, Nat.reduceLT, Nat.reduceLeDiff, Nat.reduceMul, Nat.reduceSub, BEq.rfl, beq_self_eq_true, Int.reduceToNat]
        first | refine hK _ ?_ | refine ⟨by (first | trivial | omega | (simp only [ob, ln, bdv, laws_toVisitS_id, sv] at *; omega) | ((try clear hK K); (repeat' first | apply And.intro | intro _) <;> first | trivial | omega | assumption | solve_by_elim | (apply bd_getD <;> first | assumption | decide) | (apply bd_subL <;> first | assumption | decide) | (simp only [ob, ln, bdv, laws_toVisitS_id, sv] at *; first | omega | assumption | (simp_all; done) | grind [spec_MarkVisited_len, impl_MarkVisited_len, laws_markVisitS_len]))), hK _ ?_⟩
        clear hK K
        refine AWP.ret ?_
        subst hR
        (simp only [en, si, ea, gv, sv, hk, reduceCtorEq, reduceIte, Nat.reduceBEq, Nat.reduceAdd, Nat.reduceEqDiff, Nat.reduceLT, Nat.reduceLeDiff, Nat.reduceMul, Nat.reduceSub, BEq.rfl, beq_self_eq_true, Int.reduceToNat]; first | done | trivial | (and_intros <;> first | rfl | trivial | omega | (rw [IntKind.wrap_i64]; omega) | (simp only [ln]; done) | (simp only [ob, ln, bdv, laws_toVisitS_id, sv] at *; first | omega | grind [spec_MarkVisited_len, impl_MarkVisited_len, laws_markVisitS_len]) | (left; intro j hj; simp only [pw, Bool.cond_eq_ite, Bool.and_eq_true, decide_eq_true_eq]; (repeat' split) <;> simp [putL, NoBorL, NoBor]) | (intro j hj; simp only [pw, Bool.cond_eq_ite, Bool.and_eq_true, decide_eq_true_eq]; (try rw [subL_getD _ _ _ _ (by first | assumption | omega)]); (try rw [clearL_getD _ _ _ _ (by first | omega | (simp only [ob, ln, bdv] at *; omega))]); (repeat' split) <;> first | rfl | omega | exact simOL_refl _ | (simp_all; done) | (simp_all; rfl) | (simp_all; omega) | (simp_all; exact simOL_refl _) | (simp [putL, NoBorL, NoBor]; done))))
      · first | simp only [hb, cond_false] at hR | (simp only [*] at hb; simp only [hb, cond_false] at hR)
        refine AWP.skip ?_
        refine AWP.seq ?_
        refine AWP.regS G_ok laws_FnExactMarkVisited_DD hc (by kernel_rfl) (fun K hK => ?_); simp only [ea, absV, absVL, gv, sv, laws_markVisitS_sub, D_laws_szVisitS, D_spec_MarkVisited, D_laws_toVisitS, D_impl_MarkVisited, D_laws_eqVisitS, D_laws_markVisitS, D_laws_heldVisitS, reduceCtorEq, reduceIte, Nat.reduceBEq, Nat.reduceAdd, Nat.reduceEqDiff, Nat.reduceLT, Nat.reduceLeDiff, Nat.reduceMul, Nat.reduceSub, BEq.rfl, beq_self_eq_true, Int.reduceToNat]
        first | refine hK _ ?_ | refine ⟨by (first | trivial | omega | (simp only [ob, ln, bdv, laws_toVisitS_id, sv] at *; omega) | ((try clear hK K); (repeat' first | apply And.intro | intro _) <;> first | trivial | omega | assumption | solve_by_elim | (apply bd_getD <;> first | assumption | decide) | (apply bd_subL <;> first | assumption | decide) | (simp only [ob, ln, bdv, laws_toVisitS_id, sv] at *; first | omega | assumption | (simp_all; done) | grind [spec_MarkVisited_len, impl_MarkVisited_len, laws_markVisitS_len]))), hK _ ?_⟩
        clear hK K
        refine AWP.seq ?_
        refine AWP.regS G_ok laws_FnExactMarkVisited_DD hc (by kernel_rfl) (fun K hK => ?_); simp only [ea, absV, absVL, gv, sv, laws_markVisitS_sub, D_laws_szVisitS, D_spec_MarkVisited, D_laws_toVisitS, D_impl_MarkVisited, D_laws_eqVisitS, D_laws_markVisitS, D_laws_heldVisitS, reduceCtorEq, reduceIte, Nat.reduceBEq, Nat.reduceAdd, Nat.reduceEqDiff, Nat.reduceLT, Nat.reduceLeDiff, Nat.reduceMul, Nat.reduceSub, BEq.rfl, beq_self_eq_true, Int.reduceToNat]
        first | refine hK _ ?_ | refine ⟨by (first | trivial | omega | (simp only [ob, ln, bdv, laws_toVisitS_id, sv] at *; omega) | ((try clear hK K); (repeat' first | apply And.intro | intro _) <;> first | trivial | omega | assumption | solve_by_elim | (apply bd_getD <;> first | assumption | decide) | (apply bd_subL <;> first | assumption | decide) | (simp only [ob, ln, bdv, laws_toVisitS_id, sv] at *; first | omega | assumption | (simp_all; done) | grind [spec_MarkVisited_len, impl_MarkVisited_len, laws_markVisitS_len]))), hK _ ?_⟩
        clear hK K
        refine AWP.seq ?_
        refine AWP.seq ?_
        refine AWP.regS G_ok laws_FnExactMarkVisited_DD hc (by kernel_rfl) (fun K hK => ?_); simp only [ea, absV, absVL, gv, sv, laws_markVisitS_sub, D_laws_szVisitS, D_spec_MarkVisited, D_laws_toVisitS, D_impl_MarkVisited, D_laws_eqVisitS, D_laws_markVisitS, D_laws_heldVisitS, reduceCtorEq, reduceIte, Nat.reduceBEq, Nat.reduceAdd, Nat.reduceEqDiff, Nat.reduceLT, Nat.reduceLeDiff, Nat.reduceMul, Nat.reduceSub, BEq.rfl, beq_self_eq_true, Int.reduceToNat]
        first | refine hK _ ?_ | refine ⟨by (first | trivial | omega | (simp only [ob, ln, bdv, laws_toVisitS_id, sv] at *; omega) | ((try clear hK K); (repeat' first | apply And.intro | intro _) <;> first | trivial | omega | assumption | solve_by_elim | (apply bd_getD <;> first | assumption | decide) | (apply bd_subL <;> first | assumption | decide) | (simp only [ob, ln, bdv, laws_toVisitS_id, sv] at *; first | omega | assumption | (simp_all; done) | grind [spec_MarkVisited_len, impl_MarkVisited_len, laws_markVisitS_len]))), hK _ ?_⟩
        clear hK K
        refine AWP.cond rfl (fun hb => ?_) (fun hb => ?_)
        · first | simp only [hb, cond_true] at hR | (simp only [*] at hb; simp only [hb, cond_true] at hR)
          refine AWP.seq ?_
          refine AWP.regS G_ok laws_FnExactMarkVisited_DD hc (by kernel_rfl) (fun K hK => ?_); simp only [ea, absV, absVL, gv, sv, laws_markVisitS_sub, D_laws_szVisitS, D_spec_MarkVisited, D_laws_toVisitS, D_impl_MarkVisited, D_laws_eqVisitS, D_laws_markVisitS, D_laws_heldVisitS, reduceCtorEq, reduceIte, Nat.reduceBEq, Nat.reduceAdd, Nat.reduceEqDiff, Nat.reduceLT, Nat.reduceLeDiff, Nat.reduceMul, Nat.reduceSub, BEq.rfl, beq_self_eq_true, Int.reduceToNat]
          first | refine hK _ ?_ | refine ⟨by (first | trivial | omega | (simp only [ob, ln, bdv, laws_toVisitS_id, sv] at *; omega) | ((try clear hK K); (repeat' first | apply And.intro | intro _) <;> first | trivial | omega | assumption | solve_by_elim | (apply bd_getD <;> first | assumption | decide) | (apply bd_subL <;> first | assumption | decide) | (simp only [ob, ln, bdv, laws_toVisitS_id, sv] at *; first | omega | assumption | (simp_all; done) | grind [spec_MarkVisited_len, impl_MarkVisited_len, laws_markVisitS_len]))), hK _ ?_⟩
          clear hK K
          refine AWP.ret ?_
          subst hR
          (simp only [en, si, ea, gv, sv, hk, reduceCtorEq, reduceIte, Nat.reduceBEq, Nat.reduceAdd, Nat.reduceEqDiff, Nat.reduceLT, Nat.reduceLeDiff, Nat.reduceMul, Nat.reduceSub, BEq.rfl, beq_self_eq_true, Int.reduceToNat]; first | done | trivial | (and_intros <;> first | rfl | trivial | omega | (rw [IntKind.wrap_i64]; omega) | (simp only [ln]; done) | (simp only [ob, ln, bdv, laws_toVisitS_id, sv] at *; first | omega | grind [spec_MarkVisited_len, impl_MarkVisited_len, laws_markVisitS_len]) | (left; intro j hj; simp only [pw, Bool.cond_eq_ite, Bool.and_eq_true, decide_eq_true_eq]; (repeat' split) <;> simp [putL, NoBorL, NoBor]) | (intro j hj; simp only [pw, Bool.cond_eq_ite, Bool.and_eq_true, decide_eq_true_eq]; (try rw [subL_getD _ _ _ _ (by first | assumption | omega)]); (try rw [clearL_getD _ _ _ _ (by first | omega | (simp only [ob, ln, bdv] at *; omega))]); (repeat' split) <;> first | rfl | omega | exact simOL_refl _ | (simp_all; done) | (simp_all; rfl) | (simp_all; omega) | (simp_all; exact simOL_refl _) | (simp [putL, NoBorL, NoBor]; done))))
        · first | simp only [hb, cond_false] at hR | (simp only [*] at hb; simp only [hb, cond_false] at hR)
          refine AWP.skip ?_
          refine AWP.seq ?_
          refine AWP.regS G_ok laws_FnExactMarkVisited_DD hc (by kernel_rfl) (fun K hK => ?_); simp only [ea, absV, absVL, gv, sv, laws_markVisitS_sub, D_laws_szVisitS, D_spec_MarkVisited, D_laws_toVisitS, D_impl_MarkVisited, D_laws_eqVisitS, D_laws_markVisitS, D_laws_heldVisitS, reduceCtorEq, reduceIte, Nat.reduceBEq, Nat.reduceAdd, Nat.reduceEqDiff, Nat.reduceLT, Nat.reduceLeDiff, Nat.reduceMul, Nat.reduceSub, BEq.rfl, beq_self_eq_true, Int.reduceToNat]
          first | refine hK _ ?_ | refine ⟨by (first | trivial | omega | (simp only [ob, ln, bdv, laws_toVisitS_id, sv] at *; omega) | ((try clear hK K); (repeat' first | apply And.intro | intro _) <;> first | trivial | omega | assumption | solve_by_elim | (apply bd_getD <;> first | assumption | decide) | (apply bd_subL <;> first | assumption | decide) | (simp only [ob, ln, bdv, laws_toVisitS_id, sv] at *; first | omega | assumption | (simp_all; done) | grind [spec_MarkVisited_len, impl_MarkVisited_len, laws_markVisitS_len]))), hK _ ?_⟩
          clear hK K
          refine AWP.seq ?_
          refine AWP.regS G_ok laws_FnExactMarkVisited_DD hc (by kernel_rfl) (fun K hK => ?_); simp only [ea, absV, absVL, gv, sv, laws_markVisitS_sub, D_laws_szVisitS, D_spec_MarkVisited, D_laws_toVisitS, D_impl_MarkVisited, D_laws_eqVisitS, D_laws_markVisitS, D_laws_heldVisitS, reduceCtorEq, reduceIte, Nat.reduceBEq, Nat.reduceAdd, Nat.reduceEqDiff, Nat.reduceLT, Nat.reduceLeDiff, Nat.reduceMul, Nat.reduceSub, BEq.rfl, beq_self_eq_true, Int.reduceToNat]
          first | refine hK _ ?_ | refine ⟨by (first | trivial | omega | (simp only [ob, ln, bdv, laws_toVisitS_id, sv] at *; omega) | ((try clear hK K); (repeat' first | apply And.intro | intro _) <;> first | trivial | omega | assumption | solve_by_elim | (apply bd_getD <;> first | assumption | decide) | (apply bd_subL <;> first | assumption | decide) | (simp only [ob, ln, bdv, laws_toVisitS_id, sv] at *; first | omega | assumption | (simp_all; done) | grind [spec_MarkVisited_len, impl_MarkVisited_len, laws_markVisitS_len]))), hK _ ?_⟩
          clear hK K
          refine AWP.seq ?_
          refine AWP.regS G_ok laws_FnExactMarkVisited_DD hc (by kernel_rfl) (fun K hK => ?_); simp only [ea, absV, absVL, gv, sv, laws_markVisitS_sub, D_laws_szVisitS, D_spec_MarkVisited, D_laws_toVisitS, D_impl_MarkVisited, D_laws_eqVisitS, D_laws_markVisitS, D_laws_heldVisitS, reduceCtorEq, reduceIte, Nat.reduceBEq, Nat.reduceAdd, Nat.reduceEqDiff, Nat.reduceLT, Nat.reduceLeDiff, Nat.reduceMul, Nat.reduceSub, BEq.rfl, beq_self_eq_true, Int.reduceToNat]
          first | refine hK _ ?_ | refine ⟨by (first | trivial | omega | (simp only [ob, ln, bdv, laws_toVisitS_id, sv] at *; omega) | ((try clear hK K); (repeat' first | apply And.intro | intro _) <;> first | trivial | omega | assumption | solve_by_elim | (apply bd_getD <;> first | assumption | decide) | (apply bd_subL <;> first | assumption | decide) | (simp only [ob, ln, bdv, laws_toVisitS_id, sv] at *; first | omega | assumption | (simp_all; done) | grind [spec_MarkVisited_len, impl_MarkVisited_len, laws_markVisitS_len]))), hK _ ?_⟩
          clear hK K
          refine AWP.seq ?_
          refine AWP.regS G_ok laws_FnExactMarkVisited_DD hc (by kernel_rfl) (fun K hK => ?_); simp only [ea, absV, absVL, gv, sv, laws_markVisitS_sub, D_laws_szVisitS, D_spec_MarkVisited, D_laws_toVisitS, D_impl_MarkVisited, D_laws_eqVisitS, D_laws_markVisitS, D_laws_heldVisitS, reduceCtorEq, reduceIte, Nat.reduceBEq, Nat.reduceAdd, Nat.reduceEqDiff, Nat.reduceLT, Nat.reduceLeDiff, Nat.reduceMul, Nat.reduceSub, BEq.rfl, beq_self_eq_true, Int.reduceToNat]
          first | refine hK _ ?_ | refine ⟨by (first | trivial | omega | (simp only [ob, ln, bdv, laws_toVisitS_id, sv] at *; omega) | ((try clear hK K); (repeat' first | apply And.intro | intro _) <;> first | trivial | omega | assumption | solve_by_elim | (apply bd_getD <;> first | assumption | decide) | (apply bd_subL <;> first | assumption | decide) | (simp only [ob, ln, bdv, laws_toVisitS_id, sv] at *; first | omega | assumption | (simp_all; done) | grind [spec_MarkVisited_len, impl_MarkVisited_len, laws_markVisitS_len]))), hK _ ?_⟩
          clear hK K
          refine AWP.seq ?_
          refine AWP.seq ?_
          refine AWP.regS G_ok laws_FnExactMarkVisited_DD hc (by kernel_rfl) (fun K hK => ?_); simp only [ea, absV, absVL, gv, sv, laws_markVisitS_sub, D_laws_szVisitS, D_spec_MarkVisited, D_laws_toVisitS, D_impl_MarkVisited, D_laws_eqVisitS, D_laws_markVisitS, D_laws_heldVisitS, reduceCtorEq, reduceIte, Nat.reduceBEq, Nat.reduceAdd, Nat.reduceEqDiff, Nat.reduceLT, Nat.reduceLeDiff, Nat.reduceMul, Nat.reduceSub, BEq.rfl, beq_self_eq_true, Int.reduceToNat]
          first | refine hK _ ?_ | refine ⟨by (first | trivial | omega | (simp only [ob, ln, bdv, laws_toVisitS_id, sv] at *; omega) | ((try clear hK K); (repeat' first | apply And.intro | intro _) <;> first | trivial | omega | assumption | solve_by_elim | (apply bd_getD <;> first | assumption | decide) | (apply bd_subL <;> first | assumption | decide) | (simp only [ob, ln, bdv, laws_toVisitS_id, sv] at *; first | omega | assumption | (simp_all; done) | grind [spec_MarkVisited_len, impl_MarkVisited_len, laws_markVisitS_len]))), hK _ ?_⟩
          clear hK K
          refine AWP.cond rfl (fun hb => ?_) (fun hb => ?_)
          · first | simp only [hb, cond_true] at hR | (simp only [*] at hb; simp only [hb, cond_true] at hR)
            refine AWP.seq ?_
            refine AWP.regS G_ok laws_FnExactMarkVisited_DD hc (by kernel_rfl) (fun K hK => ?_); simp only [ea, absV, absVL, gv, sv, laws_markVisitS_sub, D_laws_szVisitS, D_spec_MarkVisited, D_laws_toVisitS, D_impl_MarkVisited, D_laws_eqVisitS, D_laws_markVisitS, D_laws_heldVisitS, reduceCtorEq, reduceIte, Nat.reduceBEq, Nat.reduceAdd, Nat.reduceEqDiff, Nat.reduceLT, Nat.reduceLeDiff, Nat.reduceMul, Nat.reduceSub, BEq.rfl, beq_self_eq_true, Int.reduceToNat]
            first | refine hK _ ?_ | refine ⟨by (first | trivial | omega | (simp only [ob, ln, bdv, laws_toVisitS_id, sv] at *; omega) | ((try clear hK K); (repeat' first | apply And.intro | intro _) <;> first | trivial | omega | assumption | solve_by_elim | (apply bd_getD <;> first | assumption | decide) | (apply bd_subL <;> first | assumption | decide) | (simp only [ob, ln, bdv, laws_toVisitS_id, sv] at *; first | omega | assumption | (simp_all; done) | grind [spec_MarkVisited_len, impl_MarkVisited_len, laws_markVisitS_len]))), hK _ ?_⟩
            clear hK K
            refine AWP.ret ?_
            subst hR
            (simp only [en, si, ea, gv, sv, hk, reduceCtorEq, reduceIte, Nat.reduceBEq, Nat.reduceAdd, Nat.reduceEqDiff, Nat.reduceLT, Nat.reduceLeDiff, Nat.reduceMul, Nat.reduceSub, BEq.rfl, beq_self_eq_true, Int.reduceToNat]; first | done | trivial | (and_intros <;> first | rfl | trivial | omega | (rw [IntKind.wrap_i64]; omega) | (simp only [ln]; done) | (simp only [ob, ln, bdv, laws_toVisitS_id, sv] at *; first | omega | grind [spec_MarkVisited_len, impl_MarkVisited_len, laws_markVisitS_len]) | (left; intro j hj; simp only [pw, Bool.cond_eq_ite, Bool.and_eq_true, decide_eq_true_eq]; (repeat' split) <;> simp [putL, NoBorL, NoBor]) | (intro j hj; simp only [pw, Bool.cond_eq_ite, Bool.and_eq_true, decide_eq_true_eq]; (try rw [subL_getD _ _ _ _ (by first | assumption | omega)]); (try rw [clearL_getD _ _ _ _ (by first | omega | (simp only [ob, ln, bdv] at *; omega))]); (repeat' split) <;> first | rfl | omega | exact simOL_refl _ | (simp_all; done) | (simp_all; rfl) | (simp_all; omega) | (simp_all; exact simOL_refl _) | (simp [putL, NoBorL, NoBor]; done))))
          · first | simp only [hb, cond_false] at hR | (simp only [*] at hb; simp only [hb, cond_false] at hR)
            refine AWP.skip ?_
            refine AWP.seq ?_
            refine AWP.seq ?_
            refine AWP.regS G_ok laws_FnExactMarkVisited_DD hc (by kernel_rfl) (fun K hK => ?_); simp only [ea, absV, absVL, gv, sv, laws_markVisitS_sub, D_laws_szVisitS, D_spec_MarkVisited, D_laws_toVisitS, D_impl_MarkVisited, D_laws_eqVisitS, D_laws_markVisitS, D_laws_heldVisitS, reduceCtorEq, reduceIte, Nat.reduceBEq, Nat.reduceAdd, Nat.reduceEqDiff, Nat.reduceLT, Nat.reduceLeDiff, Nat.reduceMul, Nat.reduceSub, BEq.rfl, beq_self_eq_true, Int.reduceToNat]
            first | refine hK _ ?_ | refine ⟨by (first | trivial | omega | (simp only [ob, ln, bdv, laws_toVisitS_id, sv] at *; omega) | ((try clear hK K); (repeat' first | apply And.intro | intro _) <;> first | trivial | omega | assumption | solve_by_elim | (apply bd_getD <;> first | assumption | decide) | (apply bd_subL <;> first | assumption | decide) | (simp only [ob, ln, bdv, laws_toVisitS_id, sv] at *; first | omega | assumption | (simp_all; done) | grind [spec_MarkVisited_len, impl_MarkVisited_len, laws_markVisitS_len]))), hK _ ?_⟩
            clear hK K
            refine AWP.cond rfl (fun hb => ?_) (fun hb => ?_)
            · first | simp only [hb, cond_true] at hR | (simp only [*] at hb; simp only [hb, cond_true] at hR)
              refine AWP.seq ?_
              refine AWP.regS G_ok laws_FnExactMarkVisited_DD hc (by kernel_rfl) (fun K hK => ?_); simp only [ea, absV, absVL, gv, sv, laws_markVisitS_sub, D_laws_szVisitS, D_spec_MarkVisited, D_laws_toVisitS, D_impl_MarkVisited, D_laws_eqVisitS, D_laws_markVisitS, D_laws_heldVisitS, reduceCtorEq, reduceIte, Nat.reduceBEq, Nat.reduceAdd, Nat.reduceEqDiff, Nat.reduceLT, Nat.reduceLeDiff, Nat.reduceMul, Nat.reduceSub, BEq.rfl, beq_self_eq_true, Int.reduceToNat]
              first | refine hK _ ?_ | refine ⟨by (first | trivial | omega | (simp only [ob, ln, bdv, laws_toVisitS_id, sv] at *; omega) | ((try clear hK K); (repeat' first | apply And.intro | intro _) <;> first | trivial | omega | assumption | solve_by_elim | (apply bd_getD <;> first | assumption | decide) | (apply bd_subL <;> first | assumption | decide) | (simp only [ob, ln, bdv, laws_toVisitS_id, sv] at *; first | omega | assumption | (simp_all; done) | grind [spec_MarkVisited_len, impl_MarkVisited_len, laws_markVisitS_len]))), hK _ ?_⟩
              clear hK K
              refine AWP.ret ?_
              subst hR
              (simp only [en, si, ea, gv, sv, hk, reduceCtorEq, reduceIte, Nat.reduceBEq, Nat.reduceAdd, Nat.reduceEqDiff, Nat.reduceLT, Nat.reduceLeDiff, Nat.reduceMul, Nat.reduceSub, BEq.rfl, beq_self_eq_true, Int.reduceToNat]; first | done | trivial | (and_intros <;> first | rfl | trivial | omega | (rw [IntKind.wrap_i64]; omega) | (simp only [ln]; done) | (simp only [ob, ln, bdv, laws_toVisitS_id, sv] at *; first | omega | grind [spec_MarkVisited_len, impl_MarkVisited_len, laws_markVisitS_len]) | (left; intro j hj; simp only [pw, Bool.cond_eq_ite, Bool.and_eq_true, decide_eq_true_eq]; (repeat' split) <;> simp [putL, NoBorL, NoBor]) | (intro j hj; simp only [pw, Bool.cond_eq_ite, Bool.and_eq_true, decide_eq_true_eq]; (try rw [subL_getD _ _ _ _ (by first | assumption | omega)]); (try rw [clearL_getD _ _ _ _ (by first | omega | (simp only [ob, ln, bdv] at *; omega))]); (repeat' split) <;> first | rfl | omega | exact simOL_refl _ | (simp_all; done) | (simp_all; rfl) | (simp_all; omega) | (simp_all; exact simOL_refl _) | (simp [putL, NoBorL, NoBor]; done))))
            · first | simp only [hb, cond_false] at hR | (simp only [*] at hb; simp only [hb, cond_false] at hR)
              refine AWP.skip ?_
              refine AWP.seq ?_
              refine AWP.regS G_ok laws_FnExactMarkVisited_DD hc (by kernel_rfl) (fun K hK => ?_); simp only [ea, absV, absVL, gv, sv, laws_markVisitS_sub, D_laws_szVisitS, D_spec_MarkVisited, D_laws_toVisitS, D_impl_MarkVisited, D_laws_eqVisitS, D_laws_markVisitS, D_laws_heldVisitS, reduceCtorEq, reduceIte, Nat.reduceBEq, Nat.reduceAdd, Nat.reduceEqDiff, Nat.reduceLT, Nat.reduceLeDiff, Nat.reduceMul, Nat.reduceSub, BEq.rfl, beq_self_eq_true, Int.reduceToNat]
              first | refine hK _ ?_ | refine ⟨by (first | trivial | omega | (simp only [ob, ln, bdv, laws_toVisitS_id, sv] at *; omega) | ((try clear hK K); (repeat' first | apply And.intro | intro _) <;> first | trivial | omega | assumption | solve_by_elim | (apply bd_getD <;> first | assumption | decide) | (apply bd_subL <;> first | assumption | decide) | (simp only [ob, ln, bdv, laws_toVisitS_id, sv] at *; first | omega | assumption | (simp_all; done) | grind [spec_MarkVisited_len, impl_MarkVisited_len, laws_markVisitS_len]))), hK _ ?_⟩
              clear hK K
              refine AWP.seq ?_
              refine AWP.seq ?_
              refine AWP.regS G_ok laws_FnExactMarkVisited_DD hc (by kernel_rfl) (fun K hK => ?_); simp only [ea, absV, absVL, gv, sv, laws_markVisitS_sub, D_laws_szVisitS, D_spec_MarkVisited, D_laws_toVisitS, D_impl_MarkVisited, D_laws_eqVisitS, D_laws_markVisitS, D_laws_heldVisitS, reduceCtorEq, reduceIte, Nat.reduceBEq, Nat.reduceAdd, Nat.reduceEqDiff, Nat.reduceLT, Nat.reduceLeDiff, Nat.reduceMul, Nat.reduceSub, BEq.rfl, beq_self_eq_true, Int.reduceToNat]
              first | refine hK _ ?_ | refine ⟨by (first | trivial | omega | (simp only [ob, ln, bdv, laws_toVisitS_id, sv] at *; omega) | ((try clear hK K); (repeat' first | apply And.intro | intro _) <;> first | trivial | omega | assumption | solve_by_elim | (apply bd_getD <;> first | assumption | decide) | (apply bd_subL <;> first | assumption | decide) | (simp only [ob, ln, bdv, laws_toVisitS_id, sv] at *; first | omega | assumption | (simp_all; done) | grind [spec_MarkVisited_len, impl_MarkVisited_len, laws_markVisitS_len]))), hK _ ?_⟩
              clear hK K
              refine AWP.cond rfl (fun hb => ?_) (fun hb => ?_)
              · exfalso; simp_all
              · refine AWP.skip ?_
                refine AWP.seq ?_
                refine AWP.regS G_ok laws_FnExactMarkVisited_DD hc (by kernel_rfl) (fun K hK => ?_); simp only [ea, absV, absVL, gv, sv, laws_markVisitS_sub, D_laws_szVisitS, D_spec_MarkVisited, D_laws_toVisitS, D_impl_MarkVisited, D_laws_eqVisitS, D_laws_markVisitS, D_laws_heldVisitS, reduceCtorEq, reduceIte, Nat.reduceBEq, Nat.reduceAdd, Nat.reduceEqDiff, Nat.reduceLT, Nat.reduceLeDiff, Nat.reduceMul, Nat.reduceSub, BEq.rfl, beq_self_eq_true, Int.reduceToNat]
                first | refine hK _ ?_ | refine ⟨by (first | trivial | omega | (simp only [ob, ln, bdv, laws_toVisitS_id, sv] at *; omega) | ((try clear hK K); (repeat' first | apply And.intro | intro _) <;> first | trivial | omega | assumption | solve_by_elim | (apply bd_getD <;> first | assumption | decide) | (apply bd_subL <;> first | assumption | decide) | (simp only [ob, ln, bdv, laws_toVisitS_id, sv] at *; first | omega | assumption | (simp_all; done) | grind [spec_MarkVisited_len, impl_MarkVisited_len, laws_markVisitS_len]))), hK _ ?_⟩
                clear hK K
                refine AWP.seq ?_
                refine AWP.regS G_ok laws_FnExactMarkVisited_DD hc (by kernel_rfl) (fun K hK => ?_); simp only [ea, absV, absVL, gv, sv, laws_markVisitS_sub, D_laws_szVisitS, D_spec_MarkVisited, D_laws_toVisitS, D_impl_MarkVisited, D_laws_eqVisitS, D_laws_markVisitS, D_laws_heldVisitS, reduceCtorEq, reduceIte, Nat.reduceBEq, Nat.reduceAdd, Nat.reduceEqDiff, Nat.reduceLT, Nat.reduceLeDiff, Nat.reduceMul, Nat.reduceSub, BEq.rfl, beq_self_eq_true, Int.reduceToNat]
                first | refine hK _ ?_ | refine ⟨by (first | trivial | omega | (simp only [ob, ln, bdv, laws_toVisitS_id, sv] at *; omega) | ((try clear hK K); (repeat' first | apply And.intro | intro _) <;> first | trivial | omega | assumption | solve_by_elim | (apply bd_getD <;> first | assumption | decide) | (apply bd_subL <;> first | assumption | decide) | (simp only [ob, ln, bdv, laws_toVisitS_id, sv] at *; first | omega | assumption | (simp_all; done) | grind [spec_MarkVisited_len, impl_MarkVisited_len, laws_markVisitS_len]))), hK _ ?_⟩
                clear hK K
                refine AWP.seq ?_
                refine AWP.seq ?_
                refine AWP.regS G_ok laws_FnExactMarkVisited_DD hc (by kernel_rfl) (fun K hK => ?_); simp only [ea, absV, absVL, gv, sv, laws_markVisitS_sub, D_laws_szVisitS, D_spec_MarkVisited, D_laws_toVisitS, D_impl_MarkVisited, D_laws_eqVisitS, D_laws_markVisitS, D_laws_heldVisitS, reduceCtorEq, reduceIte, Nat.reduceBEq, Nat.reduceAdd, Nat.reduceEqDiff, Nat.reduceLT, Nat.reduceLeDiff, Nat.reduceMul, Nat.reduceSub, BEq.rfl, beq_self_eq_true, Int.reduceToNat]
                first | refine hK _ ?_ | refine ⟨by (first | trivial | omega | (simp only [ob, ln, bdv, laws_toVisitS_id, sv] at *; omega) | ((try clear hK K); (repeat' first | apply And.intro | intro _) <;> first | trivial | omega | assumption | solve_by_elim | (apply bd_getD <;> first | assumption | decide) | (apply bd_subL <;> first | assumption | decide) | (simp only [ob, ln, bdv, laws_toVisitS_id, sv] at *; first | omega | assumption | (simp_all; done) | grind [spec_MarkVisited_len, impl_MarkVisited_len, laws_markVisitS_len]))), hK _ ?_⟩
                clear hK K
                refine AWP.cond rfl (fun hb => ?_) (fun hb => ?_)
                · exfalso; simp_all
                · refine AWP.skip ?_
                  refine AWP.seq ?_
                  refine AWP.seq ?_
                  refine AWP.regS G_ok laws_FnExactMarkVisited_DD hc (by kernel_rfl) (fun K hK => ?_); simp only [ea, absV, absVL, gv, sv, laws_markVisitS_sub, D_laws_szVisitS, D_spec_MarkVisited, D_laws_toVisitS, D_impl_MarkVisited, D_laws_eqVisitS, D_laws_markVisitS, D_laws_heldVisitS, reduceCtorEq, reduceIte, Nat.reduceBEq, Nat.reduceAdd, Nat.reduceEqDiff, Nat.reduceLT, Nat.reduceLeDiff, Nat.reduceMul, Nat.reduceSub, BEq.rfl, beq_self_eq_true, Int.reduceToNat]
                  first | refine hK _ ?_ | refine ⟨by (first | trivial | omega | (simp only [ob, ln, bdv, laws_toVisitS_id, sv] at *; omega) | ((try clear hK K); (repeat' first | apply And.intro | intro _) <;> first | trivial | omega | assumption | solve_by_elim | (apply bd_getD <;> first | assumption | decide) | (apply bd_subL <;> first | assumption | decide) | (simp only [ob, ln, bdv, laws_toVisitS_id, sv] at *; first | omega | assumption | (simp_all; done) | grind [spec_MarkVisited_len, impl_MarkVisited_len, laws_markVisitS_len]))), hK _ ?_⟩
                  clear hK K
                  refine AWP.cond rfl (fun hb => ?_) (fun hb => ?_)
                  · exfalso; simp_all
                  · refine AWP.skip ?_
                    refine AWP.seq ?_
                    refine AWP.regS G_ok laws_FnExactMarkVisited_DD hc (by kernel_rfl) (fun K hK => ?_); simp only [ea, absV, absVL, gv, sv, laws_markVisitS_sub, D_laws_szVisitS, D_spec_MarkVisited, D_laws_toVisitS, D_impl_MarkVisited, D_laws_eqVisitS, D_laws_markVisitS, D_laws_heldVisitS, reduceCtorEq, reduceIte, Nat.reduceBEq, Nat.reduceAdd, Nat.reduceEqDiff, Nat.reduceLT, Nat.reduceLeDiff, Nat.reduceMul, Nat.reduceSub, BEq.rfl, beq_self_eq_true, Int.reduceToNat]
                    first | refine hK _ ?_ | refine ⟨by (first | trivial | omega | (simp only [ob, ln, bdv, laws_toVisitS_id, sv] at *; omega) | ((try clear hK K); (repeat' first | apply And.intro | intro _) <;> first | trivial | omega | assumption | solve_by_elim | (apply bd_getD <;> first | assumption | decide) | (apply bd_subL <;> first | assumption | decide) | (simp only [ob, ln, bdv, laws_toVisitS_id, sv] at *; first | omega | assumption | (simp_all; done) | grind [spec_MarkVisited_len, impl_MarkVisited_len, laws_markVisitS_len]))), hK _ ?_⟩
                    clear hK K
                    refine AWP.ret ?_
                    subst hR
                    (simp only [en, si, ea, gv, sv, hk, reduceCtorEq, reduceIte, Nat.reduceBEq, Nat.reduceAdd, Nat.reduceEqDiff, Nat.reduceLT, Nat.reduceLeDiff, Nat.reduceMul, Nat.reduceSub, BEq.rfl, beq_self_eq_true, Int.reduceToNat]; first | done | trivial | (and_intros <;> first | rfl | trivial | omega | (rw [IntKind.wrap_i64]; omega) | (simp only [ln]; done) | (simp only [ob, ln, bdv, laws_toVisitS_id, sv] at *; first | omega | grind [spec_MarkVisited_len, impl_MarkVisited_len, laws_markVisitS_len]) | (left; intro j hj; simp only [pw, Bool.cond_eq_ite, Bool.and_eq_true, decide_eq_true_eq]; (repeat' split) <;> simp [putL, NoBorL, NoBor]) | (intro j hj; simp only [pw, Bool.cond_eq_ite, Bool.and_eq_true, decide_eq_true_eq]; (try rw [subL_getD _ _ _ _ (by first | assumption | omega)]); (try rw [clearL_getD _ _ _ _ (by first | omega | (simp only [ob, ln, bdv] at *; omega))]); (repeat' split) <;> first | rfl | omega | exact simOL_refl _ | (simp_all; done) | (simp_all; rfl) | (simp_all; omega) | (simp_all; exact simOL_refl _) | (simp [putL, NoBorL, NoBor]; done))))

def D_laws_FnExactMarkVisited : DF
  | [x0, x1, x2] => some (.bool (laws_FnExactMarkVisited (rdL dVisit x0) (rdI x1) (rdI x2)), false, [wL 3 eVisit dVisit x0, wI .i64 x1, wI .i64 x2, (rdL dVisit x0).length < 9223372036854775808])
  | _ => none
theorem D_laws_FnExactMarkVisited_ok : OkD Try.prog 4 D_laws_FnExactMarkVisited := by
  intro xs r z ob h ho
  unfold D_laws_FnExactMarkVisited at h
  split at h
  · simp only [Option.some.injEq, Prod.mk.injEq] at h
    obtain ⟨rfl, rfl, rfl⟩ := h
    obtain ⟨h0, h1, h2, hb0, _⟩ := ho
    exact Den.sim (laws_FnExactMarkVisited_den _ _ _ hb0) (simOL_cons (wL_sim h0).1 <| simOL_cons (wI_sim h1).1 <| simOL_cons (wI_sim h2).1 <| trivial) (noIdL_cons (wL_sim h0).2 <| noIdL_cons (wI_sim h1).2 <| noIdL_cons (wI_sim h2).2 <| rfl) rfl
  · cases h
end Go.Ab

namespace Go.Ab
open Go Go.Proofs
theorem visit_one (v : Visit) : impl_isVisit v = spec_l30One v := rfl
theorem validVisits_eq (a : List Visit) : impl_ValidVisits a = spec_l30Ok a := rfl
theorem visitOf_eq (a : List Visit) (x : Int) : impl_visitOf a x = spec_l30Find a x := by
  rcases slices_IndexFunc_Visit__impl_visitOf_1_first a x with ⟨j, h1, h2, h3, h4⟩ | ⟨h1, h2⟩
  · rcases spec_l30Find_first a x with ⟨k, g1, g2, g3, g4⟩ | ⟨g1, g2⟩
    · have : j = k := by
        rcases Nat.lt_trichotomy j k with h | h | h
        · have := g3 j h; simp only [impl_visitOf_1] at h2; rw [h2] at this; cases this
        · exact h
        · have := h3 k h; simp only [impl_visitOf_1] at this; rw [g2] at this; cases this
      unfold impl_visitOf
      rw [h4, g4, this]
    · have := g1 j h1; simp only [impl_visitOf_1] at h2; rw [h2] at this; cases this
  · rcases spec_l30Find_first a x with ⟨k, g1, g2, g3, g4⟩ | ⟨g1, g2⟩
    · have := h1 k g1; simp only [impl_visitOf_1] at this; rw [g2] at this; cases this
    · unfold impl_visitOf
      rw [h2, g2]
theorem markVisited_eq (a : List Visit) (x d : Int) : impl_MarkVisited a x d = spec_MarkVisited a x d := by
  unfold impl_MarkVisited spec_MarkVisited impl_visitCode
  rw [validVisits_eq, visitOf_eq, impl_clone_Visit_id]
  have hd : impl_isDay d = spec_l04Day d := rfl
  rw [hd]
  cases spec_l30Ok a with
  | false => rfl
  | true =>
    cases spec_l04Day d with
    | false => rfl
    | true =>
      cases hf : decide (spec_l30Find a x < 0) with
      | true => rfl
      | false => rfl
theorem law_MarkVisited (a : List Visit) (x d : Int) (hl : a.length < 9223372036854775808) : laws_FnExactMarkVisited a x d = true := by
  unfold laws_FnExactMarkVisited
  have hf := laws_szVisitS_facts a 1048576 (by omega) (by omega) hl
  simp only [laws_toVisitS_id, laws_eqVisitS_dec]
  by_cases h : laws_szVisitS a 1048576 < 0
  · simp [h]
  · have := hf.2.2 h
    rw [← markVisited_eq a x d]
    have h1 := impl_MarkVisited_len a x d
    have hm := laws_heldVisitS_mark (impl_MarkVisited a x d).1 (by omega)
    have hn := (laws_heldVisitS_mark a (by omega)).2
    rw [hm.1]
    simp [h, hm.2, hn]
end Go.Ab

namespace Go.Ab
open Go Go.Proofs Go.Deep Go.Joins Go.ChangeShapes Go.WideShapes Go.ChangeAt Go.RowKit
theorem Visit_cells {H : Type} {enc : TypeId × Value → H} {W : World} {base : Nat} {sp : Nat → Bool} {hd : Bool} {fuel : Nat} {cs : List Value} {x : DataW H × List MemPlace}
    (h : DataW.trod enc Try.prog W base sp hd fuel 85 cs = some x) : ∃ v : Visit, cs = [.int .i64 v.Aid, .int .i64 v.Every, .int .i64 v.Last] := by
  obtain ⟨y0, y1, y2, n, _, hl, h0, h1, h2⟩ := trod_struct3 Try.underlying85 h
  have e0 : Try.prog.cellsOf 85 = 3 := by kernel_rfl
  have e2 : Try.prog.cellsOf 2 = 1 := by kernel_rfl
  simp only [e0, e2] at hl h0 h1 h2
  match cs, hl with
  | [c0, c1, c2], _ =>
    obtain ⟨n0, q0, _⟩ := DataW.trod_int Try.underlying2 h0
    obtain ⟨n1, q1, _⟩ := DataW.trod_int Try.underlying2 h1
    obtain ⟨n2, q2, _⟩ := DataW.trod_int Try.underlying2 h2
    simp at q0 q1 q2
    subst q0
    subst q1
    subst q2
    exact ⟨⟨n0, n1, n2⟩, rfl⟩

set_option maxRecDepth 100000 in
theorem Visit_list {H : Type} {enc : TypeId × Value → H} {W : World} {base : Nat} {v : Value} {d : DataW H} {ps : List MemPlace} (hval : Value.okWide Try.prog W .any base 29 v) (h : DataW.Trod enc Try.prog W 0 (fun _ => true) true 29 v d ps) :
    ∃ a : List Visit, a.length < 9223372036854775808 ∧ Rep W (fun _ => False) (encL 3 eVisit a) noMap v [] := by
  obtain ⟨fuel, h⟩ := h
  obtain ⟨oa, len, cap, rfl⟩ := okWide_slice Try.underlying29 hval
  have e33 : Try.prog.cellsOf 85 = 3 := by kernel_rfl
  rcases open_slice Try.underlying29 h with ⟨h1, _⟩ | ⟨a, len', cap', m, n, D, Pl, h1, hb, hl, hm, hme, _, hel⟩
  · simp [Value.cells] at h1
    obtain ⟨rfl, rfl, rfl⟩ := h1
    exact ⟨[], Nat.lt_of_lt_of_le (Nat.zero_lt_one) (by omega), by simp [encL, Rep]⟩
  · simp [Value.cells] at h1
    obtain ⟨rfl, rfl, rfl⟩ := h1
    simp only [if_true] at hme
    subst hme
    have hhas : a.spot = none ∧ a.block < W.heap.size := by
      simp only [Value.okWide, Try.underlying29, Cell.okWide, Cell.ok, World.has] at hval
      obtain ⟨_, _, _, h4, row, cells, h5, _⟩ := hval
      refine ⟨h4, ?_⟩
      rcases Nat.lt_or_ge a.block W.heap.size with h | h
      · exact h
      · simp [World.shape?, Array.getElem?_eq_none h] at h5
    obtain ⟨b, o, sp⟩ := a
    obtain ⟨rfl, hblt⟩ := hhas
    have hex : ∀ i, ∃ u : Visit, (i < len → ∀ j x, [Value.int .i64 u.Aid, .int .i64 u.Every, .int .i64 u.Last][j]? = some x → W.cell? ⟨b, o + i * 3 + j, none⟩ = some x ∧ x.oneCell' = true) := by
      intro i
      by_cases hi : i < len
      · obtain ⟨cs, hc, ht⟩ := hel i (by omega)
        obtain ⟨u, rfl⟩ := Visit_cells ht
        refine ⟨u, fun _ j x hx => ?_⟩
        obtain ⟨_, _, hc3⟩ := World.cells?_some hc
        rw [e33] at hc3
        have hj : j < 3 := by
          rcases Nat.lt_or_ge j 3 with h | h
          · exact h
          · rw [List.getElem?_eq_none (by simpa using h)] at hx; cases hx
        have := hc3 j hj
        rw [hx] at this
        rw [Addr.add_lit, Addr.add_lit] at this
        refine ⟨this, ?_⟩
        match j, hj with
        | 0, _ => simp at hx; subst hx; rfl
        | 1, _ => simp at hx; subst hx; rfl
        | 2, _ => simp at hx; subst hx; rfl
      · exact ⟨default, fun h => absurd h hi⟩
    obtain ⟨g, hg⟩ := Classical.axiomOfChoice hex
    refine ⟨(List.range len).map g, ?_, ?_⟩
    · simp only [List.length_map, List.length_range]
      have : maxLen = 9223372036854775807 := by decide
      omega
    · simp only [encL, Rep]
      refine .inr ⟨b, o, m, fun i => [Value.int .i64 (g i).Aid, .int .i64 (g i).Every, .int .i64 (g i).Last], fun _ => [], by simp, by simpa using hl, hblt, ?_, by simp, trivial, by simp⟩
      intro i hi
      simp at hi
      have : ((List.range len).map g).getD i default = g i := by simp [List.getD_eq_getElem?_getD, hi]
      rw [this]
      refine ⟨?_, rfl, fun j u hu => (hg i) hi j u hu⟩
      simp only [eVisit, RepL, Rep]
      exact ⟨_, _, [], [], rfl, rfl, ⟨rfl, rfl⟩, _, _, [], [], rfl, rfl, ⟨rfl, rfl⟩, _, _, [], [], rfl, rfl, ⟨rfl, rfl⟩, rfl, rfl⟩
end Go.Ab
