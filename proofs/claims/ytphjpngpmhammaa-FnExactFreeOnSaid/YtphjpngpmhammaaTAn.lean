/- A part of a proof: walks of functions and lemmas of our own. No conditions. -/
import Derived.Test.YtphjpngpmhammaaTAj
import Derived.Test.YtphjpngpmhammaaTAl
import Derived.Test.YtphjpngpmhammaaTAm
import Derived.Test.YtphjpngpmhammaaTAk
import Derived.Test.YtphjpngpmhammaaTAi
import Derived.Test.YtphjpngpmhammaaRows
set_option linter.unusedSectionVars false
set_option linter.unusedVariables false
set_option linter.unusedSimpArgs false
namespace Go.Ab
open Go Go.Proofs
theorem spec_l29Ask_DD : DOk Try.prog (DD [(101, dP D_spec_l03Day), (63, dP D_spec_l29Ok), (90, dP D_spec_l29Find)]) := DD_cons D_spec_l03Day_ok.e <| DD_cons D_spec_l29Ok_ok.e <| DD_cons D_spec_l29Find_ok.e <| DD_nil _
def spec_l29Ask (a0 : Store) (a1 : (List UInt8)) (a2 : Int) : Int :=
  (bif (!(spec_l29Ok a0)) then 1 else (bif (!(spec_l03Day a2)) then 2 else (bif decide ((spec_l29Find a0 a1) < 0) then 3 else 0)))

theorem spec_l29Ask_den (a0 : Store) (a1 : (List UInt8)) (a2 : Int)  : Den Try.prog 85 [.ep (eStore a0), .str a1, .int .i64 a2] (.int .i64 (spec_l29Ask a0 a1 a2)) := by
  generalize hR : spec_l29Ask a0 a1 a2 = r
  unfold spec_l29Ask at hR
  refine den_intro G_ok Try.func85 (by kernel_rfl) rfl Try.ntmps85 (by rw [Try.results85]) (by simp) rfl ?_
  intro c hL hc hk
  obtain ⟨hL0, hL1, hL2, _⟩ := hL
  have hw0 : bwStore a0 := Store_lens a0 hL0
  have hw1 : a1.length < 9223372036854775808 := Nat.lt_succ_of_le hL1
  clear hL0 hL1 hL2
  simp only [pars, Nat.zero_add]
  refine AWP.seq ?_
  refine AWP.regS G_ok spec_l29Ask_DD hc (by kernel_rfl) (fun K hK => ?_); simp only [ea, gv, sv, D_spec_l03Day, D_spec_l29Ok, D_spec_l29Find, reduceCtorEq, reduceIte, Nat.reduceBEq, Nat.reduceAdd, Nat.reduceEqDiff, Nat.reduceLT, Nat.reduceLeDiff, Nat.reduceMul, Nat.reduceSub, BEq.rfl, beq_self_eq_true, Int.reduceToNat]
  first | refine hK _ ?_ | refine ⟨by (first | trivial | omega | (simp only [ob, ln, bdv, sv] at *; omega) | ((try clear hK K); (repeat' first | apply And.intro | intro _) <;> first | trivial | omega | assumption | solve_by_elim | (apply bd_getD <;> first | assumption | decide) | (apply bd_subL <;> first | assumption | decide) | (simp only [ob, ln, bdv, sv] at *; first | done | omega | assumption | (simp_all; done) | grind))), hK _ ?_⟩
  clear hK K
  refine AWP.seq ?_
  refine AWP.seq ?_
  refine AWP.regS G_ok spec_l29Ask_DD hc (by kernel_rfl) (fun K hK => ?_); simp only [ea, gv, sv, D_spec_l03Day, D_spec_l29Ok, D_spec_l29Find, reduceCtorEq, reduceIte, Nat.reduceBEq, Nat.reduceAdd, Nat.reduceEqDiff, Nat.reduceLT, Nat.reduceLeDiff, Nat.reduceMul, Nat.reduceSub, BEq.rfl, beq_self_eq_true, Int.reduceToNat]
  first | refine hK _ ?_ | refine ⟨by (first | trivial | omega | (simp only [ob, ln, bdv, sv] at *; omega) | ((try clear hK K); (repeat' first | apply And.intro | intro _) <;> first | trivial | omega | assumption | solve_by_elim | (apply bd_getD <;> first | assumption | decide) | (apply bd_subL <;> first | assumption | decide) | (simp only [ob, ln, bdv, sv] at *; first | done | omega | assumption | (simp_all; done) | grind))), hK _ ?_⟩
  clear hK K
  refine AWP.cond rfl (fun hb => ?_) (fun hb => ?_)
  · first | simp only [hb, cond_true] at hR | (simp only [*] at hb; simp only [hb, cond_true] at hR)
    refine AWP.seq ?_
    refine AWP.regS G_ok spec_l29Ask_DD hc (by kernel_rfl) (fun K hK => ?_); simp only [ea, gv, sv, D_spec_l03Day, D_spec_l29Ok, D_spec_l29Find, reduceCtorEq, reduceIte, Nat.reduceBEq, Nat.reduceAdd, Nat.reduceEqDiff, Nat.reduceLT, Nat.reduceLeDiff, Nat.reduceMul, Nat.reduceSub, BEq.rfl, beq_self_eq_true, Int.reduceToNat]
    first | refine hK _ ?_ | refine ⟨by (first | trivial | omega | (simp only [ob, ln, bdv, sv] at *; omega) | ((try clear hK K); (repeat' first | apply And.intro | intro _) <;> first | trivial | omega | assumption | solve_by_elim | (apply bd_getD <;> first | assumption | decide) | (apply bd_subL <;> first | assumption | decide) | (simp only [ob, ln, bdv, sv] at *; first | done | omega | assumption | (simp_all; done) | grind))), hK _ ?_⟩
    clear hK K
    refine AWP.ret ?_
    subst hR
    (simp only [en, si, ea, gv, sv, hk, reduceCtorEq, reduceIte, Nat.reduceBEq, Nat.reduceAdd, Nat.reduceEqDiff, Nat.reduceLT, Nat.reduceLeDiff, Nat.reduceMul, Nat.reduceSub, BEq.rfl, beq_self_eq_true, Int.reduceToNat]; first | done | trivial | (and_intros <;> first | rfl | trivial | omega | (rw [IntKind.wrap_i64]; omega) | (simp only [ln]; done) | (simp only [ob, ln, bdv, sv] at *; first | done | omega | grind) | (left; intro j hj; simp only [pw, Bool.cond_eq_ite, Bool.and_eq_true, decide_eq_true_eq]; (repeat' split) <;> simp [putL, NoBorL, NoBor]) | (intro j hj; simp only [pw, Bool.cond_eq_ite]; (repeat' split) <;> first | rfl | (simp [pureL, pureV, borrowL, borrow, NoBorL, NoBor]; done) | (left; simp [pureL, pureV, borrowL, borrow, NoBorL, NoBor]; done) | omega) | (intro j hj; simp only [pw, Bool.cond_eq_ite, Bool.and_eq_true, decide_eq_true_eq]; (try rw [subL_getD _ _ _ _ (by first | assumption | omega)]); (try rw [clearL_getD _ _ _ _ (by first | omega | (simp only [ob, ln, bdv] at *; omega))]); (repeat' split) <;> first | rfl | omega | exact simOL_refl _ | (simp_all; done) | (simp_all; rfl) | (simp_all; omega) | (simp_all; exact simOL_refl _) | (simp [putL, NoBorL, NoBor]; done))))
  · first | simp only [hb, cond_false] at hR | (simp only [*] at hb; simp only [hb, cond_false] at hR)
    refine AWP.skip ?_
    refine AWP.seq ?_
    refine AWP.seq ?_
    refine AWP.regS G_ok spec_l29Ask_DD hc (by kernel_rfl) (fun K hK => ?_); simp only [ea, gv, sv, D_spec_l03Day, D_spec_l29Ok, D_spec_l29Find, reduceCtorEq, reduceIte, Nat.reduceBEq, Nat.reduceAdd, Nat.reduceEqDiff, Nat.reduceLT, Nat.reduceLeDiff, Nat.reduceMul, Nat.reduceSub, BEq.rfl, beq_self_eq_true, Int.reduceToNat]
    first | refine hK _ ?_ | refine ⟨by (first | trivial | omega | (simp only [ob, ln, bdv, sv] at *; omega) | ((try clear hK K); (repeat' first | apply And.intro | intro _) <;> first | trivial | omega | assumption | solve_by_elim | (apply bd_getD <;> first | assumption | decide) | (apply bd_subL <;> first | assumption | decide) | (simp only [ob, ln, bdv, sv] at *; first | done | omega | assumption | (simp_all; done) | grind))), hK _ ?_⟩
    clear hK K
    refine AWP.cond rfl (fun hb => ?_) (fun hb => ?_)
    · first | simp only [hb, cond_true] at hR | (simp only [*] at hb; simp only [hb, cond_true] at hR)
      refine AWP.seq ?_
      refine AWP.regS G_ok spec_l29Ask_DD hc (by kernel_rfl) (fun K hK => ?_); simp only [ea, gv, sv, D_spec_l03Day, D_spec_l29Ok, D_spec_l29Find, reduceCtorEq, reduceIte, Nat.reduceBEq, Nat.reduceAdd, Nat.reduceEqDiff, Nat.reduceLT, Nat.reduceLeDiff, Nat.reduceMul, Nat.reduceSub, BEq.rfl, beq_self_eq_true, Int.reduceToNat]
      first | refine hK _ ?_ | refine ⟨by (first | trivial | omega | (simp only [ob, ln, bdv, sv] at *; omega) | ((try clear hK K); (repeat' first | apply And.intro | intro _) <;> first | trivial | omega | assumption | solve_by_elim | (apply bd_getD <;> first | assumption | decide) | (apply bd_subL <;> first | assumption | decide) | (simp only [ob, ln, bdv, sv] at *; first | done | omega | assumption | (simp_all; done) | grind))), hK _ ?_⟩
      clear hK K
      refine AWP.ret ?_
      subst hR
      (simp only [en, si, ea, gv, sv, hk, reduceCtorEq, reduceIte, Nat.reduceBEq, Nat.reduceAdd, Nat.reduceEqDiff, Nat.reduceLT, Nat.reduceLeDiff, Nat.reduceMul, Nat.reduceSub, BEq.rfl, beq_self_eq_true, Int.reduceToNat]; first | done | trivial | (and_intros <;> first | rfl | trivial | omega | (rw [IntKind.wrap_i64]; omega) | (simp only [ln]; done) | (simp only [ob, ln, bdv, sv] at *; first | done | omega | grind) | (left; intro j hj; simp only [pw, Bool.cond_eq_ite, Bool.and_eq_true, decide_eq_true_eq]; (repeat' split) <;> simp [putL, NoBorL, NoBor]) | (intro j hj; simp only [pw, Bool.cond_eq_ite]; (repeat' split) <;> first | rfl | (simp [pureL, pureV, borrowL, borrow, NoBorL, NoBor]; done) | (left; simp [pureL, pureV, borrowL, borrow, NoBorL, NoBor]; done) | omega) | (intro j hj; simp only [pw, Bool.cond_eq_ite, Bool.and_eq_true, decide_eq_true_eq]; (try rw [subL_getD _ _ _ _ (by first | assumption | omega)]); (try rw [clearL_getD _ _ _ _ (by first | omega | (simp only [ob, ln, bdv] at *; omega))]); (repeat' split) <;> first | rfl | omega | exact simOL_refl _ | (simp_all; done) | (simp_all; rfl) | (simp_all; omega) | (simp_all; exact simOL_refl _) | (simp [putL, NoBorL, NoBor]; done))))
    · first | simp only [hb, cond_false] at hR | (simp only [*] at hb; simp only [hb, cond_false] at hR)
      refine AWP.skip ?_
      refine AWP.seq ?_
      refine AWP.seq ?_
      refine AWP.regS G_ok spec_l29Ask_DD hc (by kernel_rfl) (fun K hK => ?_); simp only [ea, gv, sv, D_spec_l03Day, D_spec_l29Ok, D_spec_l29Find, reduceCtorEq, reduceIte, Nat.reduceBEq, Nat.reduceAdd, Nat.reduceEqDiff, Nat.reduceLT, Nat.reduceLeDiff, Nat.reduceMul, Nat.reduceSub, BEq.rfl, beq_self_eq_true, Int.reduceToNat]
      first | refine hK _ ?_ | refine ⟨by (first | trivial | omega | (simp only [ob, ln, bdv, sv] at *; omega) | ((try clear hK K); (repeat' first | apply And.intro | intro _) <;> first | trivial | omega | assumption | solve_by_elim | (apply bd_getD <;> first | assumption | decide) | (apply bd_subL <;> first | assumption | decide) | (simp only [ob, ln, bdv, sv] at *; first | done | omega | assumption | (simp_all; done) | grind))), hK _ ?_⟩
      clear hK K
      refine AWP.cond rfl (fun hb => ?_) (fun hb => ?_)
      · first | simp only [hb, cond_true] at hR | (simp only [*] at hb; simp only [hb, cond_true] at hR)
        refine AWP.seq ?_
        refine AWP.regS G_ok spec_l29Ask_DD hc (by kernel_rfl) (fun K hK => ?_); simp only [ea, gv, sv, D_spec_l03Day, D_spec_l29Ok, D_spec_l29Find, reduceCtorEq, reduceIte, Nat.reduceBEq, Nat.reduceAdd, Nat.reduceEqDiff, Nat.reduceLT, Nat.reduceLeDiff, Nat.reduceMul, Nat.reduceSub, BEq.rfl, beq_self_eq_true, Int.reduceToNat]
        first | refine hK _ ?_ | refine ⟨by (first | trivial | omega | (simp only [ob, ln, bdv, sv] at *; omega) | ((try clear hK K); (repeat' first | apply And.intro | intro _) <;> first | trivial | omega | assumption | solve_by_elim | (apply bd_getD <;> first | assumption | decide) | (apply bd_subL <;> first | assumption | decide) | (simp only [ob, ln, bdv, sv] at *; first | done | omega | assumption | (simp_all; done) | grind))), hK _ ?_⟩
        clear hK K
        refine AWP.ret ?_
        subst hR
        (simp only [en, si, ea, gv, sv, hk, reduceCtorEq, reduceIte, Nat.reduceBEq, Nat.reduceAdd, Nat.reduceEqDiff, Nat.reduceLT, Nat.reduceLeDiff, Nat.reduceMul, Nat.reduceSub, BEq.rfl, beq_self_eq_true, Int.reduceToNat]; first | done | trivial | (and_intros <;> first | rfl | trivial | omega | (rw [IntKind.wrap_i64]; omega) | (simp only [ln]; done) | (simp only [ob, ln, bdv, sv] at *; first | done | omega | grind) | (left; intro j hj; simp only [pw, Bool.cond_eq_ite, Bool.and_eq_true, decide_eq_true_eq]; (repeat' split) <;> simp [putL, NoBorL, NoBor]) | (intro j hj; simp only [pw, Bool.cond_eq_ite]; (repeat' split) <;> first | rfl | (simp [pureL, pureV, borrowL, borrow, NoBorL, NoBor]; done) | (left; simp [pureL, pureV, borrowL, borrow, NoBorL, NoBor]; done) | omega) | (intro j hj; simp only [pw, Bool.cond_eq_ite, Bool.and_eq_true, decide_eq_true_eq]; (try rw [subL_getD _ _ _ _ (by first | assumption | omega)]); (try rw [clearL_getD _ _ _ _ (by first | omega | (simp only [ob, ln, bdv] at *; omega))]); (repeat' split) <;> first | rfl | omega | exact simOL_refl _ | (simp_all; done) | (simp_all; rfl) | (simp_all; omega) | (simp_all; exact simOL_refl _) | (simp [putL, NoBorL, NoBor]; done))))
      · first | simp only [hb, cond_false] at hR | (simp only [*] at hb; simp only [hb, cond_false] at hR)
        refine AWP.skip ?_
        refine AWP.seq ?_
        refine AWP.regS G_ok spec_l29Ask_DD hc (by kernel_rfl) (fun K hK => ?_); simp only [ea, gv, sv, D_spec_l03Day, D_spec_l29Ok, D_spec_l29Find, reduceCtorEq, reduceIte, Nat.reduceBEq, Nat.reduceAdd, Nat.reduceEqDiff, Nat.reduceLT, Nat.reduceLeDiff, Nat.reduceMul, Nat.reduceSub, BEq.rfl, beq_self_eq_true, Int.reduceToNat]
        first | refine hK _ ?_ | refine ⟨by (first | trivial | omega | (simp only [ob, ln, bdv, sv] at *; omega) | ((try clear hK K); (repeat' first | apply And.intro | intro _) <;> first | trivial | omega | assumption | solve_by_elim | (apply bd_getD <;> first | assumption | decide) | (apply bd_subL <;> first | assumption | decide) | (simp only [ob, ln, bdv, sv] at *; first | done | omega | assumption | (simp_all; done) | grind))), hK _ ?_⟩
        clear hK K
        refine AWP.ret ?_
        subst hR
        (simp only [en, si, ea, gv, sv, hk, reduceCtorEq, reduceIte, Nat.reduceBEq, Nat.reduceAdd, Nat.reduceEqDiff, Nat.reduceLT, Nat.reduceLeDiff, Nat.reduceMul, Nat.reduceSub, BEq.rfl, beq_self_eq_true, Int.reduceToNat]; first | done | trivial | (and_intros <;> first | rfl | trivial | omega | (rw [IntKind.wrap_i64]; omega) | (simp only [ln]; done) | (simp only [ob, ln, bdv, sv] at *; first | done | omega | grind) | (left; intro j hj; simp only [pw, Bool.cond_eq_ite, Bool.and_eq_true, decide_eq_true_eq]; (repeat' split) <;> simp [putL, NoBorL, NoBor]) | (intro j hj; simp only [pw, Bool.cond_eq_ite]; (repeat' split) <;> first | rfl | (simp [pureL, pureV, borrowL, borrow, NoBorL, NoBor]; done) | (left; simp [pureL, pureV, borrowL, borrow, NoBorL, NoBor]; done) | omega) | (intro j hj; simp only [pw, Bool.cond_eq_ite, Bool.and_eq_true, decide_eq_true_eq]; (try rw [subL_getD _ _ _ _ (by first | assumption | omega)]); (try rw [clearL_getD _ _ _ _ (by first | omega | (simp only [ob, ln, bdv] at *; omega))]); (repeat' split) <;> first | rfl | omega | exact simOL_refl _ | (simp_all; done) | (simp_all; rfl) | (simp_all; omega) | (simp_all; exact simOL_refl _) | (simp [putL, NoBorL, NoBor]; done))))

def D_spec_l29Ask : DF
  | [x0, x1, x2] => some (.int .i64 (spec_l29Ask (rdP dStore x0) (rdS x1) (rdI x2)), false, [wP eStore dStore x0, wS x1, wI .i64 x2])
  | _ => none
theorem D_spec_l29Ask_ok : OkD Try.prog 85 D_spec_l29Ask := by
  intro xs r z ob h ho
  unfold D_spec_l29Ask at h
  split at h
  · simp only [Option.some.injEq, Prod.mk.injEq] at h
    obtain ⟨rfl, rfl, rfl⟩ := h
    obtain ⟨h0, h1, h2, _⟩ := ho
    exact Den.sim (spec_l29Ask_den _ _ _ ) (simOL_cons (wP_sim h0).1 <| simOL_cons (wS_sim h1).1 <| simOL_cons (wI_sim h2).1 <| trivial) (noIdL_cons (wP_sim h0).2 <| noIdL_cons (wS_sim h1).2 <| noIdL_cons (wI_sim h2).2 <| rfl) rfl
  · cases h
end Go.Ab

namespace Go.Ab
open Go Go.Proofs
theorem impl_stockCode_DD : DOk Try.prog (DD [(102, dP D_impl_isDay), (18, dP D_impl_ValidStore), (70, dP D_impl_Store_spareOf)]) := DD_cons D_impl_isDay_ok.e <| DD_cons D_impl_ValidStore_ok.e <| DD_cons D_impl_Store_spareOf_ok.e <| DD_nil _
def impl_stockCode (a0 : Store) (a1 : (List UInt8)) (a2 : Int) : (Int × Int) :=
  (bif (!(impl_ValidStore a0)) then (0, 1) else (bif (!(impl_isDay a2)) then (0, 2) else (bif (!((impl_Store_spareOf a0 a1).2)) then (0, 3) else ((impl_Store_spareOf a0 a1).1, 0))))

theorem impl_stockCode_den (a0 : Store) (a1 : (List UInt8)) (a2 : Int) (hb0 : bdStore a0) (hb1 : a1.length < 1099511627776) : Den Try.prog 87 [.agg (eStore a0), .str a1, .int .i64 a2] (.tup [.int .i64 ((impl_stockCode a0 a1 a2).1), .int .i64 ((impl_stockCode a0 a1 a2).2)]) := by
  generalize hR : impl_stockCode a0 a1 a2 = r
  unfold impl_stockCode at hR
  refine den_intro G_ok Try.func87 (by kernel_rfl) rfl Try.ntmps87 (by rw [Try.results87]) (by simp) rfl ?_
  intro c hL hc hk
  obtain ⟨hL0, hL1, hL2, _⟩ := hL
  have hw0 : bwStore a0 := Store_lens a0 hL0
  have hw1 : a1.length < 9223372036854775808 := Nat.lt_succ_of_le hL1
  clear hL0 hL1 hL2
  simp only [pars, Nat.zero_add]
  refine AWP.seq ?_
  refine AWP.regS G_ok impl_stockCode_DD hc (by kernel_rfl) (fun K hK => ?_); simp only [ea, gv, sv, D_impl_isDay, D_impl_ValidStore, D_impl_Store_spareOf, reduceCtorEq, reduceIte, Nat.reduceBEq, Nat.reduceAdd, Nat.reduceEqDiff, Nat.reduceLT, Nat.reduceLeDiff, Nat.reduceMul, Nat.reduceSub, BEq.rfl, beq_self_eq_true, Int.reduceToNat]
  first | refine hK _ ?_ | refine ⟨by (first | trivial | omega | (simp only [ob, ln, bdv, sv] at *; omega) | ((try clear hK K); (repeat' first | apply And.intro | intro _) <;> first | trivial | omega | assumption | solve_by_elim | (apply bd_getD <;> first | assumption | decide) | (apply bd_subL <;> first | assumption | decide) | (simp only [ob, ln, bdv, sv] at *; first | done | omega | assumption | (simp_all; done) | grind))), hK _ ?_⟩
  clear hK K
  refine AWP.seq ?_
  refine AWP.seq ?_
  refine AWP.regS G_ok impl_stockCode_DD hc (by kernel_rfl) (fun K hK => ?_); simp only [ea, gv, sv, D_impl_isDay, D_impl_ValidStore, D_impl_Store_spareOf, reduceCtorEq, reduceIte, Nat.reduceBEq, Nat.reduceAdd, Nat.reduceEqDiff, Nat.reduceLT, Nat.reduceLeDiff, Nat.reduceMul, Nat.reduceSub, BEq.rfl, beq_self_eq_true, Int.reduceToNat]
  first | refine hK _ ?_ | refine ⟨by (first | trivial | omega | (simp only [ob, ln, bdv, sv] at *; omega) | ((try clear hK K); (repeat' first | apply And.intro | intro _) <;> first | trivial | omega | assumption | solve_by_elim | (apply bd_getD <;> first | assumption | decide) | (apply bd_subL <;> first | assumption | decide) | (simp only [ob, ln, bdv, sv] at *; first | done | omega | assumption | (simp_all; done) | grind))), hK _ ?_⟩
  clear hK K
  refine AWP.cond rfl (fun hb => ?_) (fun hb => ?_)
  · first | simp only [hb, cond_true] at hR | (simp only [*] at hb; simp only [hb, cond_true] at hR)
    refine AWP.seq ?_
    refine AWP.regS G_ok impl_stockCode_DD hc (by kernel_rfl) (fun K hK => ?_); simp only [ea, gv, sv, D_impl_isDay, D_impl_ValidStore, D_impl_Store_spareOf, reduceCtorEq, reduceIte, Nat.reduceBEq, Nat.reduceAdd, Nat.reduceEqDiff, Nat.reduceLT, Nat.reduceLeDiff, Nat.reduceMul, Nat.reduceSub, BEq.rfl, beq_self_eq_true, Int.reduceToNat]
    first | refine hK _ ?_ | refine ⟨by (first | trivial | omega | (simp only [ob, ln, bdv, sv] at *; omega) | ((try clear hK K); (repeat' first | apply And.intro | intro _) <;> first | trivial | omega | assumption | solve_by_elim | (apply bd_getD <;> first | assumption | decide) | (apply bd_subL <;> first | assumption | decide) | (simp only [ob, ln, bdv, sv] at *; first | done | omega | assumption | (simp_all; done) | grind))), hK _ ?_⟩
    clear hK K
    refine AWP.ret ?_
    subst hR
    (simp only [en, si, ea, gv, sv, hk, reduceCtorEq, reduceIte, Nat.reduceBEq, Nat.reduceAdd, Nat.reduceEqDiff, Nat.reduceLT, Nat.reduceLeDiff, Nat.reduceMul, Nat.reduceSub, BEq.rfl, beq_self_eq_true, Int.reduceToNat]; first | done | trivial | (and_intros <;> first | rfl | trivial | omega | (rw [IntKind.wrap_i64]; omega) | (simp only [ln]; done) | (simp only [ob, ln, bdv, sv] at *; first | done | omega | grind) | (left; intro j hj; simp only [pw, Bool.cond_eq_ite, Bool.and_eq_true, decide_eq_true_eq]; (repeat' split) <;> simp [putL, NoBorL, NoBor]) | (intro j hj; simp only [pw, Bool.cond_eq_ite]; (repeat' split) <;> first | rfl | (simp [pureL, pureV, borrowL, borrow, NoBorL, NoBor]; done) | (left; simp [pureL, pureV, borrowL, borrow, NoBorL, NoBor]; done) | omega) | (intro j hj; simp only [pw, Bool.cond_eq_ite, Bool.and_eq_true, decide_eq_true_eq]; (try rw [subL_getD _ _ _ _ (by first | assumption | omega)]); (try rw [clearL_getD _ _ _ _ (by first | omega | (simp only [ob, ln, bdv] at *; omega))]); (repeat' split) <;> first | rfl | omega | exact simOL_refl _ | (simp_all; done) | (simp_all; rfl) | (simp_all; omega) | (simp_all; exact simOL_refl _) | (simp [putL, NoBorL, NoBor]; done))))
  · first | simp only [hb, cond_false] at hR | (simp only [*] at hb; simp only [hb, cond_false] at hR)
    refine AWP.skip ?_
    refine AWP.seq ?_
    refine AWP.seq ?_
    refine AWP.regS G_ok impl_stockCode_DD hc (by kernel_rfl) (fun K hK => ?_); simp only [ea, gv, sv, D_impl_isDay, D_impl_ValidStore, D_impl_Store_spareOf, reduceCtorEq, reduceIte, Nat.reduceBEq, Nat.reduceAdd, Nat.reduceEqDiff, Nat.reduceLT, Nat.reduceLeDiff, Nat.reduceMul, Nat.reduceSub, BEq.rfl, beq_self_eq_true, Int.reduceToNat]
    first | refine hK _ ?_ | refine ⟨by (first | trivial | omega | (simp only [ob, ln, bdv, sv] at *; omega) | ((try clear hK K); (repeat' first | apply And.intro | intro _) <;> first | trivial | omega | assumption | solve_by_elim | (apply bd_getD <;> first | assumption | decide) | (apply bd_subL <;> first | assumption | decide) | (simp only [ob, ln, bdv, sv] at *; first | done | omega | assumption | (simp_all; done) | grind))), hK _ ?_⟩
    clear hK K
    refine AWP.cond rfl (fun hb => ?_) (fun hb => ?_)
    · first | simp only [hb, cond_true] at hR | (simp only [*] at hb; simp only [hb, cond_true] at hR)
      refine AWP.seq ?_
      refine AWP.regS G_ok impl_stockCode_DD hc (by kernel_rfl) (fun K hK => ?_); simp only [ea, gv, sv, D_impl_isDay, D_impl_ValidStore, D_impl_Store_spareOf, reduceCtorEq, reduceIte, Nat.reduceBEq, Nat.reduceAdd, Nat.reduceEqDiff, Nat.reduceLT, Nat.reduceLeDiff, Nat.reduceMul, Nat.reduceSub, BEq.rfl, beq_self_eq_true, Int.reduceToNat]
      first | refine hK _ ?_ | refine ⟨by (first | trivial | omega | (simp only [ob, ln, bdv, sv] at *; omega) | ((try clear hK K); (repeat' first | apply And.intro | intro _) <;> first | trivial | omega | assumption | solve_by_elim | (apply bd_getD <;> first | assumption | decide) | (apply bd_subL <;> first | assumption | decide) | (simp only [ob, ln, bdv, sv] at *; first | done | omega | assumption | (simp_all; done) | grind))), hK _ ?_⟩
      clear hK K
      refine AWP.ret ?_
      subst hR
      (simp only [en, si, ea, gv, sv, hk, reduceCtorEq, reduceIte, Nat.reduceBEq, Nat.reduceAdd, Nat.reduceEqDiff, Nat.reduceLT, Nat.reduceLeDiff, Nat.reduceMul, Nat.reduceSub, BEq.rfl, beq_self_eq_true, Int.reduceToNat]; first | done | trivial | (and_intros <;> first | rfl | trivial | omega | (rw [IntKind.wrap_i64]; omega) | (simp only [ln]; done) | (simp only [ob, ln, bdv, sv] at *; first | done | omega | grind) | (left; intro j hj; simp only [pw, Bool.cond_eq_ite, Bool.and_eq_true, decide_eq_true_eq]; (repeat' split) <;> simp [putL, NoBorL, NoBor]) | (intro j hj; simp only [pw, Bool.cond_eq_ite]; (repeat' split) <;> first | rfl | (simp [pureL, pureV, borrowL, borrow, NoBorL, NoBor]; done) | (left; simp [pureL, pureV, borrowL, borrow, NoBorL, NoBor]; done) | omega) | (intro j hj; simp only [pw, Bool.cond_eq_ite, Bool.and_eq_true, decide_eq_true_eq]; (try rw [subL_getD _ _ _ _ (by first | assumption | omega)]); (try rw [clearL_getD _ _ _ _ (by first | omega | (simp only [ob, ln, bdv] at *; omega))]); (repeat' split) <;> first | rfl | omega | exact simOL_refl _ | (simp_all; done) | (simp_all; rfl) | (simp_all; omega) | (simp_all; exact simOL_refl _) | (simp [putL, NoBorL, NoBor]; done))))
    · first | simp only [hb, cond_false] at hR | (simp only [*] at hb; simp only [hb, cond_false] at hR)
      refine AWP.skip ?_
      refine AWP.seq ?_
      refine AWP.regS G_ok impl_stockCode_DD hc (by kernel_rfl) (fun K hK => ?_); simp only [ea, gv, sv, D_impl_isDay, D_impl_ValidStore, D_impl_Store_spareOf, reduceCtorEq, reduceIte, Nat.reduceBEq, Nat.reduceAdd, Nat.reduceEqDiff, Nat.reduceLT, Nat.reduceLeDiff, Nat.reduceMul, Nat.reduceSub, BEq.rfl, beq_self_eq_true, Int.reduceToNat]
      first | refine hK _ ?_ | refine ⟨by (first | trivial | omega | (simp only [ob, ln, bdv, sv] at *; omega) | ((try clear hK K); (repeat' first | apply And.intro | intro _) <;> first | trivial | omega | assumption | solve_by_elim | (apply bd_getD <;> first | assumption | decide) | (apply bd_subL <;> first | assumption | decide) | (simp only [ob, ln, bdv, sv] at *; first | done | omega | assumption | (simp_all; done) | grind))), hK _ ?_⟩
      clear hK K
      refine AWP.seq ?_
      refine AWP.seq ?_
      refine AWP.regS G_ok impl_stockCode_DD hc (by kernel_rfl) (fun K hK => ?_); simp only [ea, gv, sv, D_impl_isDay, D_impl_ValidStore, D_impl_Store_spareOf, reduceCtorEq, reduceIte, Nat.reduceBEq, Nat.reduceAdd, Nat.reduceEqDiff, Nat.reduceLT, Nat.reduceLeDiff, Nat.reduceMul, Nat.reduceSub, BEq.rfl, beq_self_eq_true, Int.reduceToNat]
      first | refine hK _ ?_ | refine ⟨by (first | trivial | omega | (simp only [ob, ln, bdv, sv] at *; omega) | ((try clear hK K); (repeat' first | apply And.intro | intro _) <;> first | trivial | omega | assumption | solve_by_elim | (apply bd_getD <;> first | assumption | decide) | (apply bd_subL <;> first | assumption | decide) | (simp only [ob, ln, bdv, sv] at *; first | done | omega | assumption | (simp_all; done) | grind))), hK _ ?_⟩
      clear hK K
      refine AWP.cond rfl (fun hb => ?_) (fun hb => ?_)
      · first | simp only [hb, cond_true] at hR | (simp only [*] at hb; simp only [hb, cond_true] at hR)
        refine AWP.seq ?_
        refine AWP.regS G_ok impl_stockCode_DD hc (by kernel_rfl) (fun K hK => ?_); simp only [ea, gv, sv, D_impl_isDay, D_impl_ValidStore, D_impl_Store_spareOf, reduceCtorEq, reduceIte, Nat.reduceBEq, Nat.reduceAdd, Nat.reduceEqDiff, Nat.reduceLT, Nat.reduceLeDiff, Nat.reduceMul, Nat.reduceSub, BEq.rfl, beq_self_eq_true, Int.reduceToNat]
        first | refine hK _ ?_ | refine ⟨by (first | trivial | omega | (simp only [ob, ln, bdv, sv] at *; omega) | ((try clear hK K); (repeat' first | apply And.intro | intro _) <;> first | trivial | omega | assumption | solve_by_elim | (apply bd_getD <;> first | assumption | decide) | (apply bd_subL <;> first | assumption | decide) | (simp only [ob, ln, bdv, sv] at *; first | done | omega | assumption | (simp_all; done) | grind))), hK _ ?_⟩
        clear hK K
        refine AWP.ret ?_
        subst hR
        (simp only [en, si, ea, gv, sv, hk, reduceCtorEq, reduceIte, Nat.reduceBEq, Nat.reduceAdd, Nat.reduceEqDiff, Nat.reduceLT, Nat.reduceLeDiff, Nat.reduceMul, Nat.reduceSub, BEq.rfl, beq_self_eq_true, Int.reduceToNat]; first | done | trivial | (and_intros <;> first | rfl | trivial | omega | (rw [IntKind.wrap_i64]; omega) | (simp only [ln]; done) | (simp only [ob, ln, bdv, sv] at *; first | done | omega | grind) | (left; intro j hj; simp only [pw, Bool.cond_eq_ite, Bool.and_eq_true, decide_eq_true_eq]; (repeat' split) <;> simp [putL, NoBorL, NoBor]) | (intro j hj; simp only [pw, Bool.cond_eq_ite]; (repeat' split) <;> first | rfl | (simp [pureL, pureV, borrowL, borrow, NoBorL, NoBor]; done) | (left; simp [pureL, pureV, borrowL, borrow, NoBorL, NoBor]; done) | omega) | (intro j hj; simp only [pw, Bool.cond_eq_ite, Bool.and_eq_true, decide_eq_true_eq]; (try rw [subL_getD _ _ _ _ (by first | assumption | omega)]); (try rw [clearL_getD _ _ _ _ (by first | omega | (simp only [ob, ln, bdv] at *; omega))]); (repeat' split) <;> first | rfl | omega | exact simOL_refl _ | (simp_all; done) | (simp_all; rfl) | (simp_all; omega) | (simp_all; exact simOL_refl _) | (simp [putL, NoBorL, NoBor]; done))))
      · first | simp only [hb, cond_false] at hR | (simp only [*] at hb; simp only [hb, cond_false] at hR)
        refine AWP.skip ?_
        refine AWP.seq ?_
        refine AWP.regS G_ok impl_stockCode_DD hc (by kernel_rfl) (fun K hK => ?_); simp only [ea, gv, sv, D_impl_isDay, D_impl_ValidStore, D_impl_Store_spareOf, reduceCtorEq, reduceIte, Nat.reduceBEq, Nat.reduceAdd, Nat.reduceEqDiff, Nat.reduceLT, Nat.reduceLeDiff, Nat.reduceMul, Nat.reduceSub, BEq.rfl, beq_self_eq_true, Int.reduceToNat]
        first | refine hK _ ?_ | refine ⟨by (first | trivial | omega | (simp only [ob, ln, bdv, sv] at *; omega) | ((try clear hK K); (repeat' first | apply And.intro | intro _) <;> first | trivial | omega | assumption | solve_by_elim | (apply bd_getD <;> first | assumption | decide) | (apply bd_subL <;> first | assumption | decide) | (simp only [ob, ln, bdv, sv] at *; first | done | omega | assumption | (simp_all; done) | grind))), hK _ ?_⟩
        clear hK K
        refine AWP.ret ?_
        subst hR
        (simp only [en, si, ea, gv, sv, hk, reduceCtorEq, reduceIte, Nat.reduceBEq, Nat.reduceAdd, Nat.reduceEqDiff, Nat.reduceLT, Nat.reduceLeDiff, Nat.reduceMul, Nat.reduceSub, BEq.rfl, beq_self_eq_true, Int.reduceToNat]; first | done | trivial | (and_intros <;> first | rfl | trivial | omega | (rw [IntKind.wrap_i64]; omega) | (simp only [ln]; done) | (simp only [ob, ln, bdv, sv] at *; first | done | omega | grind) | (left; intro j hj; simp only [pw, Bool.cond_eq_ite, Bool.and_eq_true, decide_eq_true_eq]; (repeat' split) <;> simp [putL, NoBorL, NoBor]) | (intro j hj; simp only [pw, Bool.cond_eq_ite]; (repeat' split) <;> first | rfl | (simp [pureL, pureV, borrowL, borrow, NoBorL, NoBor]; done) | (left; simp [pureL, pureV, borrowL, borrow, NoBorL, NoBor]; done) | omega) | (intro j hj; simp only [pw, Bool.cond_eq_ite, Bool.and_eq_true, decide_eq_true_eq]; (try rw [subL_getD _ _ _ _ (by first | assumption | omega)]); (try rw [clearL_getD _ _ _ _ (by first | omega | (simp only [ob, ln, bdv] at *; omega))]); (repeat' split) <;> first | rfl | omega | exact simOL_refl _ | (simp_all; done) | (simp_all; rfl) | (simp_all; omega) | (simp_all; exact simOL_refl _) | (simp [putL, NoBorL, NoBor]; done))))

def D_impl_stockCode : DF
  | [x0, x1, x2] => some (.tup [.int .i64 ((impl_stockCode (rdG dStore x0) (rdS x1) (rdI x2)).1), .int .i64 ((impl_stockCode (rdG dStore x0) (rdS x1) (rdI x2)).2)], false, [wG eStore dStore x0, wS x1, wI .i64 x2, bdStore (rdG dStore x0), (rdS x1).length < 1099511627776])
  | _ => none
theorem D_impl_stockCode_ok : OkD Try.prog 87 D_impl_stockCode := by
  intro xs r z ob h ho
  unfold D_impl_stockCode at h
  split at h
  · simp only [Option.some.injEq, Prod.mk.injEq] at h
    obtain ⟨rfl, rfl, rfl⟩ := h
    obtain ⟨h0, h1, h2, hb0, hb1, _⟩ := ho
    exact Den.sim (impl_stockCode_den _ _ _ hb0 hb1) (simOL_cons (wG_sim h0).1 <| simOL_cons (wS_sim h1).1 <| simOL_cons (wI_sim h2).1 <| trivial) (noIdL_cons (wG_sim h0).2 <| noIdL_cons (wS_sim h1).2 <| noIdL_cons (wI_sim h2).2 <| rfl) rfl
  · cases h
end Go.Ab

namespace Go.Ab
open Go Go.Proofs
theorem slices_Min_int64_DD : DOk Try.prog (DD []) := DD_nil _
def slices_Min_int64_b1 (a0 : (List Int)) (i1 : Nat) (s1 : Int) : Except (Int) (Int) :=
  .ok (if (a0.getD i1 default) < s1 then (a0.getD i1 default) else s1)

def slices_Min_int64 (a0 : (List Int)) : Int :=
  (match loopR (slices_Min_int64_b1 a0) (a0.length - 1) 1 (a0.getD 0 default) with | .error e => e | .ok s1 => s1)

theorem slices_Min_int64_den (a0 : (List Int)) (hp0 : 1 ≤ a0.length) : Den Try.prog 89 [encL 1 eIi64 a0] (.int .i64 (slices_Min_int64 a0)) := by
  generalize hR : slices_Min_int64 a0 = r
  unfold slices_Min_int64 at hR
  refine den_intro G_ok Try.func89 (by kernel_rfl) rfl Try.ntmps89 (by rw [Try.results89]) (by simp) rfl ?_
  intro c hL hc hk
  obtain ⟨hL0, _⟩ := hL
  have hw0 : a0.length < 9223372036854775808 := Nat.lt_succ_of_le (lens_encL hL0).1
  clear hL0
  simp only [pars, Nat.zero_add]
  refine AWP.seq ?_
  refine AWP.regS G_ok slices_Min_int64_DD hc (by kernel_rfl) (fun K hK => ?_); simp only [ea, gv, sv, reduceCtorEq, reduceIte, Nat.reduceBEq, Nat.reduceAdd, Nat.reduceEqDiff, Nat.reduceLT, Nat.reduceLeDiff, Nat.reduceMul, Nat.reduceSub, BEq.rfl, beq_self_eq_true, Int.reduceToNat]
  first | refine hK _ ?_ | refine ⟨by (first | trivial | omega | (simp only [ob, ln, bdv, sv] at *; omega) | ((try clear hK K); (repeat' first | apply And.intro | intro _) <;> first | trivial | omega | assumption | solve_by_elim | (apply bd_getD <;> first | assumption | decide) | (apply bd_subL <;> first | assumption | decide) | (simp only [ob, ln, bdv, sv] at *; first | done | omega | assumption | (simp_all; done) | grind))), hK _ ?_⟩
  clear hK K
  refine AWP.seq ?_
  refine AWP.seq ?_
  refine AWP.regS G_ok slices_Min_int64_DD hc (by kernel_rfl) (fun K hK => ?_); simp only [ea, gv, sv, reduceCtorEq, reduceIte, Nat.reduceBEq, Nat.reduceAdd, Nat.reduceEqDiff, Nat.reduceLT, Nat.reduceLeDiff, Nat.reduceMul, Nat.reduceSub, BEq.rfl, beq_self_eq_true, Int.reduceToNat]
  first | refine hK _ ?_ | refine ⟨by (first | trivial | omega | (simp only [ob, ln, bdv, sv] at *; omega) | ((try clear hK K); (repeat' first | apply And.intro | intro _) <;> first | trivial | omega | assumption | solve_by_elim | (apply bd_getD <;> first | assumption | decide) | (apply bd_subL <;> first | assumption | decide) | (simp only [ob, ln, bdv, sv] at *; first | done | omega | assumption | (simp_all; done) | grind))), hK _ ?_⟩
  clear hK K
  refine AWP.cond rfl (fun hb => ?_) (fun hb => ?_)
  · exfalso; have hb := of_decide_eq_true hb; omega
  · refine AWP.skip ?_
    refine AWP.seq ?_
    refine AWP.regS G_ok slices_Min_int64_DD hc (by kernel_rfl) (fun K hK => ?_); simp only [ea, gv, sv, reduceCtorEq, reduceIte, Nat.reduceBEq, Nat.reduceAdd, Nat.reduceEqDiff, Nat.reduceLT, Nat.reduceLeDiff, Nat.reduceMul, Nat.reduceSub, BEq.rfl, beq_self_eq_true, Int.reduceToNat]
    first | refine hK _ ?_ | refine ⟨by (first | trivial | omega | (simp only [ob, ln, bdv, sv] at *; omega) | ((try clear hK K); (repeat' first | apply And.intro | intro _) <;> first | trivial | omega | assumption | solve_by_elim | (apply bd_getD <;> first | assumption | decide) | (apply bd_subL <;> first | assumption | decide) | (simp only [ob, ln, bdv, sv] at *; first | done | omega | assumption | (simp_all; done) | grind))), hK _ ?_⟩
    clear hK K
    refine AWP.seq ?_
    refine AWP.seq ?_
    refine AWP.regS G_ok slices_Min_int64_DD hc (by kernel_rfl) (fun K hK => ?_); simp only [ea, gv, sv, reduceCtorEq, reduceIte, Nat.reduceBEq, Nat.reduceAdd, Nat.reduceEqDiff, Nat.reduceLT, Nat.reduceLeDiff, Nat.reduceMul, Nat.reduceSub, BEq.rfl, beq_self_eq_true, Int.reduceToNat]
    first | refine hK _ ?_ | refine ⟨by (first | trivial | omega | (simp only [ob, ln, bdv, sv] at *; omega) | ((try clear hK K); (repeat' first | apply And.intro | intro _) <;> first | trivial | omega | assumption | solve_by_elim | (apply bd_getD <;> first | assumption | decide) | (apply bd_subL <;> first | assumption | decide) | (simp only [ob, ln, bdv, sv] at *; first | done | omega | assumption | (simp_all; done) | grind))), hK _ ?_⟩
    clear hK K
    refine AWP.block ?_
    generalize hz1 : loopR (slices_Min_int64_b1 a0) (a0.length - 1) 1 (a0.getD 0 default) = z1 at hR
    refine AWP.range (slices_Min_int64_b1 a0) (fun i1 s1 => ⟨[(0, encL 1 eIi64 a0), (3, .int .i64 s1), (4, .int .i64 (i1 : Int))], []⟩) (fun i1 s1 => 1 ≤ i1) (a0.length) 1 (a0.getD 0 default) [] hz1 (by (first | trivial | omega | (simp only [ob, ln, bdv, sv] at *; omega) | ((try clear hK K); (repeat' first | apply And.intro | intro _) <;> first | trivial | omega | assumption | solve_by_elim | (apply bd_getD <;> first | assumption | decide) | (apply bd_subL <;> first | assumption | decide) | (simp only [ob, ln, bdv, sv] at *; first | done | omega | assumption | (simp_all; done) | grind)))) (by (first | trivial | (and_intros <;> simp only [ln] <;> omega) | (and_intros <;> simp only [ob, ln] at * <;> omega) | (and_intros <;> first | trivial | omega | assumption | (apply bd_set <;> first | assumption | (apply bd_getD <;> first | assumption | decide)) | (apply bd_app <;> first | assumption | (apply bd_getD <;> first | assumption | decide)) | (simp only [ob, ln, bdv, sv] at *; omega) | (simp; done)))) (by (simp only [si, ea, gv, sv, hk, reduceCtorEq, reduceIte, Nat.reduceBEq, Nat.reduceAdd, Nat.reduceEqDiff, Nat.reduceLT, Nat.reduceLeDiff, Nat.reduceMul, Nat.reduceSub, BEq.rfl, beq_self_eq_true, Int.reduceToNat]; first | done | trivial | (and_intros <;> first | rfl | trivial | omega | (rw [IntKind.wrap_i64]; omega) | (simp only [ln]; done) | (simp only [ob, ln, bdv, sv] at *; first | done | omega | grind) | (left; intro j hj; simp only [pw, Bool.cond_eq_ite, Bool.and_eq_true, decide_eq_true_eq]; (repeat' split) <;> simp [putL, NoBorL, NoBor]) | (intro j hj; simp only [pw, Bool.cond_eq_ite]; (repeat' split) <;> first | rfl | (simp [pureL, pureV, borrowL, borrow, NoBorL, NoBor]; done) | (left; simp [pureL, pureV, borrowL, borrow, NoBorL, NoBor]; done) | omega) | (intro j hj; simp only [pw, Bool.cond_eq_ite, Bool.and_eq_true, decide_eq_true_eq]; (try rw [subL_getD _ _ _ _ (by first | assumption | omega)]); (try rw [clearL_getD _ _ _ _ (by first | omega | (simp only [ob, ln, bdv] at *; omega))]); (repeat' split) <;> first | rfl | omega | exact simOL_refl _ | (simp_all; done) | (simp_all; rfl) | (simp_all; omega) | (simp_all; exact simOL_refl _) | (simp [putL, NoBorL, NoBor]; done))))) ?_
    clear hz1
    intro i1 s1 hi1 hW1 hz1
    refine AWP.seq ?_
    refine AWP.seq ?_
    refine AWP.regS G_ok slices_Min_int64_DD hc (by kernel_rfl) (fun K hK => ?_); simp only [ea, gv, sv, reduceCtorEq, reduceIte, Nat.reduceBEq, Nat.reduceAdd, Nat.reduceEqDiff, Nat.reduceLT, Nat.reduceLeDiff, Nat.reduceMul, Nat.reduceSub, BEq.rfl, beq_self_eq_true, Int.reduceToNat]
    first | refine hK _ ?_ | refine ⟨by (first | trivial | omega | (simp only [ob, ln, bdv, sv] at *; omega) | ((try clear hK K); (repeat' first | apply And.intro | intro _) <;> first | trivial | omega | assumption | solve_by_elim | (apply bd_getD <;> first | assumption | decide) | (apply bd_subL <;> first | assumption | decide) | (simp only [ob, ln, bdv, sv] at *; first | done | omega | assumption | (simp_all; done) | grind))), hK _ ?_⟩
    clear hK K
    refine AWP.cond rfl (fun hb => ?_) (fun hb => ?_)
    · have hlt1 : i1 < a0.length := by (first | trivial | omega | (simp only [ob, ln, bdv, sv] at *; omega) | ((try clear hK K); (repeat' first | apply And.intro | intro _) <;> first | trivial | omega | assumption | solve_by_elim | (apply bd_getD <;> first | assumption | decide) | (apply bd_subL <;> first | assumption | decide) | (simp only [ob, ln, bdv, sv] at *; first | done | omega | assumption | (simp_all; done) | grind)))
      rw [loopR_lt hlt1] at hz1; simp only [slices_Min_int64_b1] at hz1
      refine AWP.skip ?_
      refine AWP.seq ?_
      refine AWP.block ?_
      refine AWP.regS G_ok slices_Min_int64_DD hc (by kernel_rfl) (fun K hK => ?_); simp only [ea, gv, sv, reduceCtorEq, reduceIte, Nat.reduceBEq, Nat.reduceAdd, Nat.reduceEqDiff, Nat.reduceLT, Nat.reduceLeDiff, Nat.reduceMul, Nat.reduceSub, BEq.rfl, beq_self_eq_true, Int.reduceToNat]
      first | refine hK _ ?_ | refine ⟨by (first | trivial | omega | (simp only [ob, ln, bdv, sv] at *; omega) | ((try clear hK K); (repeat' first | apply And.intro | intro _) <;> first | trivial | omega | assumption | solve_by_elim | (apply bd_getD <;> first | assumption | decide) | (apply bd_subL <;> first | assumption | decide) | (simp only [ob, ln, bdv, sv] at *; first | done | omega | assumption | (simp_all; done) | grind))), hK _ ?_⟩
      clear hK K
      refine AWP.regS G_ok slices_Min_int64_DD hc (by kernel_rfl) (fun K hK => ?_); simp only [ea, gv, sv, reduceCtorEq, reduceIte, Nat.reduceBEq, Nat.reduceAdd, Nat.reduceEqDiff, Nat.reduceLT, Nat.reduceLeDiff, Nat.reduceMul, Nat.reduceSub, BEq.rfl, beq_self_eq_true, Int.reduceToNat]
      first | refine hK _ ?_ | refine ⟨by (first | trivial | omega | (simp only [ob, ln, bdv, sv] at *; omega) | ((try clear hK K); (repeat' first | apply And.intro | intro _) <;> first | trivial | omega | assumption | solve_by_elim | (apply bd_getD <;> first | assumption | decide) | (apply bd_subL <;> first | assumption | decide) | (simp only [ob, ln, bdv, sv] at *; first | done | omega | assumption | (simp_all; done) | grind))), hK _ ?_⟩
      clear hK K
      exact ⟨_, [], hlt1, by (first | trivial | (and_intros <;> simp only [ln] <;> omega) | (and_intros <;> simp only [ob, ln] at * <;> omega) | (and_intros <;> first | trivial | omega | assumption | (apply bd_set <;> first | assumption | (apply bd_getD <;> first | assumption | decide)) | (apply bd_app <;> first | assumption | (apply bd_getD <;> first | assumption | decide)) | (simp only [ob, ln, bdv, sv] at *; omega) | (simp; done))), hz1, by (simp only [si, ea, gv, sv, hk, reduceCtorEq, reduceIte, Nat.reduceBEq, Nat.reduceAdd, Nat.reduceEqDiff, Nat.reduceLT, Nat.reduceLeDiff, Nat.reduceMul, Nat.reduceSub, BEq.rfl, beq_self_eq_true, Int.reduceToNat]; first | done | trivial | (and_intros <;> first | rfl | trivial | omega | (rw [IntKind.wrap_i64]; omega) | (simp only [ln]; done) | (simp only [ob, ln, bdv, sv] at *; first | done | omega | grind) | (left; intro j hj; simp only [pw, Bool.cond_eq_ite, Bool.and_eq_true, decide_eq_true_eq]; (repeat' split) <;> simp [putL, NoBorL, NoBor]) | (intro j hj; simp only [pw, Bool.cond_eq_ite]; (repeat' split) <;> first | rfl | (simp [pureL, pureV, borrowL, borrow, NoBorL, NoBor]; done) | (left; simp [pureL, pureV, borrowL, borrow, NoBorL, NoBor]; done) | omega) | (intro j hj; simp only [pw, Bool.cond_eq_ite, Bool.and_eq_true, decide_eq_true_eq]; (try rw [subL_getD _ _ _ _ (by first | assumption | omega)]); (try rw [clearL_getD _ _ _ _ (by first | omega | (simp only [ob, ln, bdv] at *; omega))]); (repeat' split) <;> first | rfl | omega | exact simOL_refl _ | (simp_all; done) | (simp_all; rfl) | (simp_all; omega) | (simp_all; exact simOL_refl _) | (simp [putL, NoBorL, NoBor]; done))))⟩
    · obtain rfl : i1 = a0.length := by (first | trivial | omega | (simp only [ob, ln, bdv, sv] at *; omega) | ((try clear hK K); (repeat' first | apply And.intro | intro _) <;> first | trivial | omega | assumption | solve_by_elim | (apply bd_getD <;> first | assumption | decide) | (apply bd_subL <;> first | assumption | decide) | (simp only [ob, ln, bdv, sv] at *; first | done | omega | assumption | (simp_all; done) | grind)))
      rw [loopR_ge (Nat.le_refl _)] at hz1; subst hz1; dsimp only at hR
      refine AWP.exit ?_; refine exitTo_here ?_
      refine AWP.seq ?_
      refine AWP.regS G_ok slices_Min_int64_DD hc (by kernel_rfl) (fun K hK => ?_); simp only [ea, gv, sv, reduceCtorEq, reduceIte, Nat.reduceBEq, Nat.reduceAdd, Nat.reduceEqDiff, Nat.reduceLT, Nat.reduceLeDiff, Nat.reduceMul, Nat.reduceSub, BEq.rfl, beq_self_eq_true, Int.reduceToNat]
      first | refine hK _ ?_ | refine ⟨by (first | trivial | omega | (simp only [ob, ln, bdv, sv] at *; omega) | ((try clear hK K); (repeat' first | apply And.intro | intro _) <;> first | trivial | omega | assumption | solve_by_elim | (apply bd_getD <;> first | assumption | decide) | (apply bd_subL <;> first | assumption | decide) | (simp only [ob, ln, bdv, sv] at *; first | done | omega | assumption | (simp_all; done) | grind))), hK _ ?_⟩
      clear hK K
      refine AWP.ret ?_
      subst hR
      (simp only [en, si, ea, gv, sv, hk, reduceCtorEq, reduceIte, Nat.reduceBEq, Nat.reduceAdd, Nat.reduceEqDiff, Nat.reduceLT, Nat.reduceLeDiff, Nat.reduceMul, Nat.reduceSub, BEq.rfl, beq_self_eq_true, Int.reduceToNat]; first | done | trivial | (and_intros <;> first | rfl | trivial | omega | (rw [IntKind.wrap_i64]; omega) | (simp only [ln]; done) | (simp only [ob, ln, bdv, sv] at *; first | done | omega | grind) | (left; intro j hj; simp only [pw, Bool.cond_eq_ite, Bool.and_eq_true, decide_eq_true_eq]; (repeat' split) <;> simp [putL, NoBorL, NoBor]) | (intro j hj; simp only [pw, Bool.cond_eq_ite]; (repeat' split) <;> first | rfl | (simp [pureL, pureV, borrowL, borrow, NoBorL, NoBor]; done) | (left; simp [pureL, pureV, borrowL, borrow, NoBorL, NoBor]; done) | omega) | (intro j hj; simp only [pw, Bool.cond_eq_ite, Bool.and_eq_true, decide_eq_true_eq]; (try rw [subL_getD _ _ _ _ (by first | assumption | omega)]); (try rw [clearL_getD _ _ _ _ (by first | omega | (simp only [ob, ln, bdv] at *; omega))]); (repeat' split) <;> first | rfl | omega | exact simOL_refl _ | (simp_all; done) | (simp_all; rfl) | (simp_all; omega) | (simp_all; exact simOL_refl _) | (simp [putL, NoBorL, NoBor]; done))))

def D_slices_Min_int64 : DF
  | [x0] => some (.int .i64 (slices_Min_int64 (rdL dIi64 x0)), false, [wL 1 eIi64 dIi64 x0, 1 ≤ (rdL dIi64 x0).length])
  | _ => none
theorem D_slices_Min_int64_ok : OkD Try.prog 89 D_slices_Min_int64 := by
  intro xs r z ob h ho
  unfold D_slices_Min_int64 at h
  split at h
  · simp only [Option.some.injEq, Prod.mk.injEq] at h
    obtain ⟨rfl, rfl, rfl⟩ := h
    obtain ⟨h0, hp0, _⟩ := ho
    exact Den.sim (slices_Min_int64_den _ hp0) (simOL_cons (wL_sim h0).1 <| trivial) (noIdL_cons (wL_sim h0).2 <| rfl) rfl
  · cases h
end Go.Ab

namespace Go.Ab
open Go Go.Proofs
theorem slices_Max_int64_DD : DOk Try.prog (DD []) := DD_nil _
def slices_Max_int64_b1 (a0 : (List Int)) (i1 : Nat) (s1 : Int) : Except (Int) (Int) :=
  .ok (if s1 < (a0.getD i1 default) then (a0.getD i1 default) else s1)

def slices_Max_int64 (a0 : (List Int)) : Int :=
  (match loopR (slices_Max_int64_b1 a0) (a0.length - 1) 1 (a0.getD 0 default) with | .error e => e | .ok s1 => s1)

theorem slices_Max_int64_den (a0 : (List Int)) (hp0 : 1 ≤ a0.length) : Den Try.prog 91 [encL 1 eIi64 a0] (.int .i64 (slices_Max_int64 a0)) := by
  generalize hR : slices_Max_int64 a0 = r
  unfold slices_Max_int64 at hR
  refine den_intro G_ok Try.func91 (by kernel_rfl) rfl Try.ntmps91 (by rw [Try.results91]) (by simp) rfl ?_
  intro c hL hc hk
  obtain ⟨hL0, _⟩ := hL
  have hw0 : a0.length < 9223372036854775808 := Nat.lt_succ_of_le (lens_encL hL0).1
  clear hL0
  simp only [pars, Nat.zero_add]
  refine AWP.seq ?_
  refine AWP.regS G_ok slices_Max_int64_DD hc (by kernel_rfl) (fun K hK => ?_); simp only [ea, gv, sv, reduceCtorEq, reduceIte, Nat.reduceBEq, Nat.reduceAdd, Nat.reduceEqDiff, Nat.reduceLT, Nat.reduceLeDiff, Nat.reduceMul, Nat.reduceSub, BEq.rfl, beq_self_eq_true, Int.reduceToNat]
  first | refine hK _ ?_ | refine ⟨by (first | trivial | omega | (simp only [ob, ln, bdv, sv] at *; omega) | ((try clear hK K); (repeat' first | apply And.intro | intro _) <;> first | trivial | omega | assumption | solve_by_elim | (apply bd_getD <;> first | assumption | decide) | (apply bd_subL <;> first | assumption | decide) | (simp only [ob, ln, bdv, sv] at *; first | done | omega | assumption | (simp_all; done) | grind))), hK _ ?_⟩
  clear hK K
  refine AWP.seq ?_
  refine AWP.seq ?_
  refine AWP.regS G_ok slices_Max_int64_DD hc (by kernel_rfl) (fun K hK => ?_); simp only [ea, gv, sv, reduceCtorEq, reduceIte, Nat.reduceBEq, Nat.reduceAdd, Nat.reduceEqDiff, Nat.reduceLT, Nat.reduceLeDiff, Nat.reduceMul, Nat.reduceSub, BEq.rfl, beq_self_eq_true, Int.reduceToNat]
  first | refine hK _ ?_ | refine ⟨by (first | trivial | omega | (simp only [ob, ln, bdv, sv] at *; omega) | ((try clear hK K); (repeat' first | apply And.intro | intro _) <;> first | trivial | omega | assumption | solve_by_elim | (apply bd_getD <;> first | assumption | decide) | (apply bd_subL <;> first | assumption | decide) | (simp only [ob, ln, bdv, sv] at *; first | done | omega | assumption | (simp_all; done) | grind))), hK _ ?_⟩
  clear hK K
  refine AWP.cond rfl (fun hb => ?_) (fun hb => ?_)
  · exfalso; have hb := of_decide_eq_true hb; omega
  · refine AWP.skip ?_
    refine AWP.seq ?_
    refine AWP.regS G_ok slices_Max_int64_DD hc (by kernel_rfl) (fun K hK => ?_); simp only [ea, gv, sv, reduceCtorEq, reduceIte, Nat.reduceBEq, Nat.reduceAdd, Nat.reduceEqDiff, Nat.reduceLT, Nat.reduceLeDiff, Nat.reduceMul, Nat.reduceSub, BEq.rfl, beq_self_eq_true, Int.reduceToNat]
    first | refine hK _ ?_ | refine ⟨by (first | trivial | omega | (simp only [ob, ln, bdv, sv] at *; omega) | ((try clear hK K); (repeat' first | apply And.intro | intro _) <;> first | trivial | omega | assumption | solve_by_elim | (apply bd_getD <;> first | assumption | decide) | (apply bd_subL <;> first | assumption | decide) | (simp only [ob, ln, bdv, sv] at *; first | done | omega | assumption | (simp_all; done) | grind))), hK _ ?_⟩
    clear hK K
    refine AWP.seq ?_
    refine AWP.seq ?_
    refine AWP.regS G_ok slices_Max_int64_DD hc (by kernel_rfl) (fun K hK => ?_); simp only [ea, gv, sv, reduceCtorEq, reduceIte, Nat.reduceBEq, Nat.reduceAdd, Nat.reduceEqDiff, Nat.reduceLT, Nat.reduceLeDiff, Nat.reduceMul, Nat.reduceSub, BEq.rfl, beq_self_eq_true, Int.reduceToNat]
    first | refine hK _ ?_ | refine ⟨by (first | trivial | omega | (simp only [ob, ln, bdv, sv] at *; omega) | ((try clear hK K); (repeat' first | apply And.intro | intro _) <;> first | trivial | omega | assumption | solve_by_elim | (apply bd_getD <;> first | assumption | decide) | (apply bd_subL <;> first | assumption | decide) | (simp only [ob, ln, bdv, sv] at *; first | done | omega | assumption | (simp_all; done) | grind))), hK _ ?_⟩
    clear hK K
    refine AWP.block ?_
    generalize hz1 : loopR (slices_Max_int64_b1 a0) (a0.length - 1) 1 (a0.getD 0 default) = z1 at hR
    refine AWP.range (slices_Max_int64_b1 a0) (fun i1 s1 => ⟨[(0, encL 1 eIi64 a0), (3, .int .i64 s1), (4, .int .i64 (i1 : Int))], []⟩) (fun i1 s1 => 1 ≤ i1) (a0.length) 1 (a0.getD 0 default) [] hz1 (by (first | trivial | omega | (simp only [ob, ln, bdv, sv] at *; omega) | ((try clear hK K); (repeat' first | apply And.intro | intro _) <;> first | trivial | omega | assumption | solve_by_elim | (apply bd_getD <;> first | assumption | decide) | (apply bd_subL <;> first | assumption | decide) | (simp only [ob, ln, bdv, sv] at *; first | done | omega | assumption | (simp_all; done) | grind)))) (by (first | trivial | (and_intros <;> simp only [ln] <;> omega) | (and_intros <;> simp only [ob, ln] at * <;> omega) | (and_intros <;> first | trivial | omega | assumption | (apply bd_set <;> first | assumption | (apply bd_getD <;> first | assumption | decide)) | (apply bd_app <;> first | assumption | (apply bd_getD <;> first | assumption | decide)) | (simp only [ob, ln, bdv, sv] at *; omega) | (simp; done)))) (by (simp only [si, ea, gv, sv, hk, reduceCtorEq, reduceIte, Nat.reduceBEq, Nat.reduceAdd, Nat.reduceEqDiff, Nat.reduceLT, Nat.reduceLeDiff, Nat.reduceMul, Nat.reduceSub, BEq.rfl, beq_self_eq_true, Int.reduceToNat]; first | done | trivial | (and_intros <;> first | rfl | trivial | omega | (rw [IntKind.wrap_i64]; omega) | (simp only [ln]; done) | (simp only [ob, ln, bdv, sv] at *; first | done | omega | grind) | (left; intro j hj; simp only [pw, Bool.cond_eq_ite, Bool.and_eq_true, decide_eq_true_eq]; (repeat' split) <;> simp [putL, NoBorL, NoBor]) | (intro j hj; simp only [pw, Bool.cond_eq_ite]; (repeat' split) <;> first | rfl | (simp [pureL, pureV, borrowL, borrow, NoBorL, NoBor]; done) | (left; simp [pureL, pureV, borrowL, borrow, NoBorL, NoBor]; done) | omega) | (intro j hj; simp only [pw, Bool.cond_eq_ite, Bool.and_eq_true, decide_eq_true_eq]; (try rw [subL_getD _ _ _ _ (by first | assumption | omega)]); (try rw [clearL_getD _ _ _ _ (by first | omega | (simp only [ob, ln, bdv] at *; omega))]); (repeat' split) <;> first | rfl | omega | exact simOL_refl _ | (simp_all; done) | (simp_all; rfl) | (simp_all; omega) | (simp_all; exact simOL_refl _) | (simp [putL, NoBorL, NoBor]; done))))) ?_
    clear hz1
    intro i1 s1 hi1 hW1 hz1
    refine AWP.seq ?_
    refine AWP.seq ?_
    refine AWP.regS G_ok slices_Max_int64_DD hc (by kernel_rfl) (fun K hK => ?_); simp only [ea, gv, sv, reduceCtorEq, reduceIte, Nat.reduceBEq, Nat.reduceAdd, Nat.reduceEqDiff, Nat.reduceLT, Nat.reduceLeDiff, Nat.reduceMul, Nat.reduceSub, BEq.rfl, beq_self_eq_true, Int.reduceToNat]
    first | refine hK _ ?_ | refine ⟨by (first | trivial | omega | (simp only [ob, ln, bdv, sv] at *; omega) | ((try clear hK K); (repeat' first | apply And.intro | intro _) <;> first | trivial | omega | assumption | solve_by_elim | (apply bd_getD <;> first | assumption | decide) | (apply bd_subL <;> first | assumption | decide) | (simp only [ob, ln, bdv, sv] at *; first | done | omega | assumption | (simp_all; done) | grind))), hK _ ?_⟩
    clear hK K
    refine AWP.cond rfl (fun hb => ?_) (fun hb => ?_)
    · have hlt1 : i1 < a0.length := by (first | trivial | omega | (simp only [ob, ln, bdv, sv] at *; omega) | ((try clear hK K); (repeat' first | apply And.intro | intro _) <;> first | trivial | omega | assumption | solve_by_elim | (apply bd_getD <;> first | assumption | decide) | (apply bd_subL <;> first | assumption | decide) | (simp only [ob, ln, bdv, sv] at *; first | done | omega | assumption | (simp_all; done) | grind)))
      rw [loopR_lt hlt1] at hz1; simp only [slices_Max_int64_b1] at hz1
      refine AWP.skip ?_
      refine AWP.seq ?_
      refine AWP.block ?_
      refine AWP.regS G_ok slices_Max_int64_DD hc (by kernel_rfl) (fun K hK => ?_); simp only [ea, gv, sv, reduceCtorEq, reduceIte, Nat.reduceBEq, Nat.reduceAdd, Nat.reduceEqDiff, Nat.reduceLT, Nat.reduceLeDiff, Nat.reduceMul, Nat.reduceSub, BEq.rfl, beq_self_eq_true, Int.reduceToNat]
      first | refine hK _ ?_ | refine ⟨by (first | trivial | omega | (simp only [ob, ln, bdv, sv] at *; omega) | ((try clear hK K); (repeat' first | apply And.intro | intro _) <;> first | trivial | omega | assumption | solve_by_elim | (apply bd_getD <;> first | assumption | decide) | (apply bd_subL <;> first | assumption | decide) | (simp only [ob, ln, bdv, sv] at *; first | done | omega | assumption | (simp_all; done) | grind))), hK _ ?_⟩
      clear hK K
      refine AWP.regS G_ok slices_Max_int64_DD hc (by kernel_rfl) (fun K hK => ?_); simp only [ea, gv, sv, reduceCtorEq, reduceIte, Nat.reduceBEq, Nat.reduceAdd, Nat.reduceEqDiff, Nat.reduceLT, Nat.reduceLeDiff, Nat.reduceMul, Nat.reduceSub, BEq.rfl, beq_self_eq_true, Int.reduceToNat]
      first | refine hK _ ?_ | refine ⟨by (first | trivial | omega | (simp only [ob, ln, bdv, sv] at *; omega) | ((try clear hK K); (repeat' first | apply And.intro | intro _) <;> first | trivial | omega | assumption | solve_by_elim | (apply bd_getD <;> first | assumption | decide) | (apply bd_subL <;> first | assumption | decide) | (simp only [ob, ln, bdv, sv] at *; first | done | omega | assumption | (simp_all; done) | grind))), hK _ ?_⟩
      clear hK K
      exact ⟨_, [], hlt1, by (first | trivial | (and_intros <;> simp only [ln] <;> omega) | (and_intros <;> simp only [ob, ln] at * <;> omega) | (and_intros <;> first | trivial | omega | assumption | (apply bd_set <;> first | assumption | (apply bd_getD <;> first | assumption | decide)) | (apply bd_app <;> first | assumption | (apply bd_getD <;> first | assumption | decide)) | (simp only [ob, ln, bdv, sv] at *; omega) | (simp; done))), hz1, by (simp only [si, ea, gv, sv, hk, reduceCtorEq, reduceIte, Nat.reduceBEq, Nat.reduceAdd, Nat.reduceEqDiff, Nat.reduceLT, Nat.reduceLeDiff, Nat.reduceMul, Nat.reduceSub, BEq.rfl, beq_self_eq_true, Int.reduceToNat]; first | done | trivial | (and_intros <;> first | rfl | trivial | omega | (rw [IntKind.wrap_i64]; omega) | (simp only [ln]; done) | (simp only [ob, ln, bdv, sv] at *; first | done | omega | grind) | (left; intro j hj; simp only [pw, Bool.cond_eq_ite, Bool.and_eq_true, decide_eq_true_eq]; (repeat' split) <;> simp [putL, NoBorL, NoBor]) | (intro j hj; simp only [pw, Bool.cond_eq_ite]; (repeat' split) <;> first | rfl | (simp [pureL, pureV, borrowL, borrow, NoBorL, NoBor]; done) | (left; simp [pureL, pureV, borrowL, borrow, NoBorL, NoBor]; done) | omega) | (intro j hj; simp only [pw, Bool.cond_eq_ite, Bool.and_eq_true, decide_eq_true_eq]; (try rw [subL_getD _ _ _ _ (by first | assumption | omega)]); (try rw [clearL_getD _ _ _ _ (by first | omega | (simp only [ob, ln, bdv] at *; omega))]); (repeat' split) <;> first | rfl | omega | exact simOL_refl _ | (simp_all; done) | (simp_all; rfl) | (simp_all; omega) | (simp_all; exact simOL_refl _) | (simp [putL, NoBorL, NoBor]; done))))⟩
    · obtain rfl : i1 = a0.length := by (first | trivial | omega | (simp only [ob, ln, bdv, sv] at *; omega) | ((try clear hK K); (repeat' first | apply And.intro | intro _) <;> first | trivial | omega | assumption | solve_by_elim | (apply bd_getD <;> first | assumption | decide) | (apply bd_subL <;> first | assumption | decide) | (simp only [ob, ln, bdv, sv] at *; first | done | omega | assumption | (simp_all; done) | grind)))
      rw [loopR_ge (Nat.le_refl _)] at hz1; subst hz1; dsimp only at hR
      refine AWP.exit ?_; refine exitTo_here ?_
      refine AWP.seq ?_
      refine AWP.regS G_ok slices_Max_int64_DD hc (by kernel_rfl) (fun K hK => ?_); simp only [ea, gv, sv, reduceCtorEq, reduceIte, Nat.reduceBEq, Nat.reduceAdd, Nat.reduceEqDiff, Nat.reduceLT, Nat.reduceLeDiff, Nat.reduceMul, Nat.reduceSub, BEq.rfl, beq_self_eq_true, Int.reduceToNat]
      first | refine hK _ ?_ | refine ⟨by (first | trivial | omega | (simp only [ob, ln, bdv, sv] at *; omega) | ((try clear hK K); (repeat' first | apply And.intro | intro _) <;> first | trivial | omega | assumption | solve_by_elim | (apply bd_getD <;> first | assumption | decide) | (apply bd_subL <;> first | assumption | decide) | (simp only [ob, ln, bdv, sv] at *; first | done | omega | assumption | (simp_all; done) | grind))), hK _ ?_⟩
      clear hK K
      refine AWP.ret ?_
      subst hR
      (simp only [en, si, ea, gv, sv, hk, reduceCtorEq, reduceIte, Nat.reduceBEq, Nat.reduceAdd, Nat.reduceEqDiff, Nat.reduceLT, Nat.reduceLeDiff, Nat.reduceMul, Nat.reduceSub, BEq.rfl, beq_self_eq_true, Int.reduceToNat]; first | done | trivial | (and_intros <;> first | rfl | trivial | omega | (rw [IntKind.wrap_i64]; omega) | (simp only [ln]; done) | (simp only [ob, ln, bdv, sv] at *; first | done | omega | grind) | (left; intro j hj; simp only [pw, Bool.cond_eq_ite, Bool.and_eq_true, decide_eq_true_eq]; (repeat' split) <;> simp [putL, NoBorL, NoBor]) | (intro j hj; simp only [pw, Bool.cond_eq_ite]; (repeat' split) <;> first | rfl | (simp [pureL, pureV, borrowL, borrow, NoBorL, NoBor]; done) | (left; simp [pureL, pureV, borrowL, borrow, NoBorL, NoBor]; done) | omega) | (intro j hj; simp only [pw, Bool.cond_eq_ite, Bool.and_eq_true, decide_eq_true_eq]; (try rw [subL_getD _ _ _ _ (by first | assumption | omega)]); (try rw [clearL_getD _ _ _ _ (by first | omega | (simp only [ob, ln, bdv] at *; omega))]); (repeat' split) <;> first | rfl | omega | exact simOL_refl _ | (simp_all; done) | (simp_all; rfl) | (simp_all; omega) | (simp_all; exact simOL_refl _) | (simp [putL, NoBorL, NoBor]; done))))

def D_slices_Max_int64 : DF
  | [x0] => some (.int .i64 (slices_Max_int64 (rdL dIi64 x0)), false, [wL 1 eIi64 dIi64 x0, 1 ≤ (rdL dIi64 x0).length])
  | _ => none
theorem D_slices_Max_int64_ok : OkD Try.prog 91 D_slices_Max_int64 := by
  intro xs r z ob h ho
  unfold D_slices_Max_int64 at h
  split at h
  · simp only [Option.some.injEq, Prod.mk.injEq] at h
    obtain ⟨rfl, rfl, rfl⟩ := h
    obtain ⟨h0, hp0, _⟩ := ho
    exact Den.sim (slices_Max_int64_den _ hp0) (simOL_cons (wL_sim h0).1 <| trivial) (noIdL_cons (wL_sim h0).2 <| rfl) rfl
  · cases h
end Go.Ab

namespace Go.Ab
open Go Go.Proofs
theorem stockCode_eq (a : Store) (k : List UInt8) (d : Int) (h : bwStore a) : (impl_stockCode a k d).2 = spec_l29Ask a k d ∧ (spec_l29Ask a k d = 0 → (impl_stockCode a k d).1 = spec_l29Find a k ∧ OkS a) := by
  unfold impl_stockCode spec_l29Ask
  rw [validStore_eq a h]
  cases h1 : spec_l29Ok a with
  | false => simp
  | true =>
    have hok := (specOk_iff a).1 h1
    obtain ⟨f1, f2⟩ := found_eq a k (And.left (And.left h)) hok.s2
    have hd : impl_isDay d = spec_l03Day d := rfl
    rw [hd]
    cases h2 : spec_l03Day d with
    | false => simp
    | true =>
      rw [f1]
      by_cases hf : 0 ≤ spec_l29Find a k
      · have hn : ¬ spec_l29Find a k < 0 := by omega
        simp only [hf, hn, decide_true, decide_false, Bool.not_true, cond_false, true_and]
        exact fun _ => ⟨f2 hf, hok⟩
      · have hn : spec_l29Find a k < 0 := by omega
        simp [hf, hn]
/- the three numbers of a list of entries -/
def st1 (k : List UInt8) (d : Int) : List Entry → Int → Int
  | [], s => s
  | e :: t, s => bif (e.Item == k) && decide (e.Day ≤ d) then st1 k d t (IntKind.wrap .i64 (s + e.Amount)) else st1 k d t s
def st2 (k : List UInt8) (d : Int) : List Entry → Int × Int × Int → Int × Int × Int
  | [], s => s
  | e :: t, s => bif (e.Item == k) && decide (d < e.Day) then st2 k d t (IntKind.wrap .i64 (s.1 + e.Amount), spec_l00Min s.2.1 (IntKind.wrap .i64 (s.1 + e.Amount)), spec_l00Max s.2.2 (IntKind.wrap .i64 (s.1 + e.Amount))) else st2 k d t s
theorem stock_eq (a : Store) (k : List UInt8) (d : Int) : spec_l29Stock a k d = (st1 k d a.Entries 0, (st2 k d a.Entries (st1 k d a.Entries 0, st1 k d a.Entries 0, st1 k d a.Entries 0)).2) := by
  unfold spec_l29Stock
  rw [loopR_list0 (b := spec_l29Stock_b1 a k d) (fun (e : Entry) (s : Int) => (bif ((e.Item == k) && decide (e.Day ≤ d)) then .ok (IntKind.wrap .i64 (s + e.Amount)) else .ok s)) a.Entries _ (fun j u _ => rfl)]
  have h1 : ∀ (es : List Entry) (s : Int), loopL (ρ := Int × Int × Int) (fun (e : Entry) (s : Int) => (bif ((e.Item == k) && decide (e.Day ≤ d)) then .ok (IntKind.wrap .i64 (s + e.Amount)) else .ok s)) es s = .ok (st1 k d es s) := by
    intro es
    induction es with
    | nil => intro s; rfl
    | cons e t ih =>
      intro s
      rw [loopL_cons]
      simp only [st1]
      cases (e.Item == k) && decide (e.Day ≤ d) with
      | true => exact ih _
      | false => exact ih _
  rw [h1]
  simp only
  rw [loopR_list0 (b := spec_l29Stock_b2 a k d _) (fun (e : Entry) (s : Int × Int × Int) => (bif ((e.Item == k) && decide (d < e.Day)) then .ok (IntKind.wrap .i64 (s.1 + e.Amount), (spec_l00Min s.2.1 (IntKind.wrap .i64 (s.1 + e.Amount))), (spec_l00Max s.2.2 (IntKind.wrap .i64 (s.1 + e.Amount)))) else .ok (s.1, s.2.1, s.2.2))) a.Entries _ (fun j u _ => rfl)]
  have h2 : ∀ (es : List Entry) (s : Int × Int × Int), loopL (ρ := Int × Int × Int) (fun (e : Entry) (s : Int × Int × Int) => (bif ((e.Item == k) && decide (d < e.Day)) then .ok (IntKind.wrap .i64 (s.1 + e.Amount), (spec_l00Min s.2.1 (IntKind.wrap .i64 (s.1 + e.Amount))), (spec_l00Max s.2.2 (IntKind.wrap .i64 (s.1 + e.Amount)))) else .ok (s.1, s.2.1, s.2.2))) es s = .ok (st2 k d es s) := by
    intro es
    induction es with
    | nil => intro s; rfl
    | cons e t ih =>
      intro s
      rw [loopL_cons]
      simp only [st2]
      cases (e.Item == k) && decide (d < e.Day) with
      | true => exact ih _
      | false => exact ih _
  rw [h2]
def gF (d : Int) (x : Int × Int) (s : List Int) : Except (List Int) (List Int) := bif decide (x.1 ≤ d) then .ok (s.set 0 x.2) else .ok (s ++ [x.2])
/-- the days rise -/
theorem days_le (a : Store) (hok : OkS a) : a.Entries.Pairwise (fun x y => x.Day ≤ y.Day) := by
  have h : ∀ (n i : Nat), i + n < a.Entries.length → (a.Entries.getD i default).Day ≤ (a.Entries.getD (i + n) default).Day := by
    intro n
    induction n with
    | zero => intro i _; exact Int.le_refl _
    | succ n ih =>
      intro i hi
      have h1 := ih i (by omega)
      have h2 := hok.e3 (i + (n + 1)) hi (by omega)
      rw [show i + (n + 1) - 1 = i + n by omega] at h2
      omega
  rw [List.pairwise_iff_getElem]
  intro i j hi hj hij
  have := h (j - i) i (by omega)
  rw [show i + (j - i) = j by omega, List.getD_eq_getElem?_getD, List.getD_eq_getElem?_getD, List.getElem?_eq_getElem hi, List.getElem?_eq_getElem hj, Option.getD_some, Option.getD_some] at this
  exact this
/-- from a day on, later entries only -/
theorem lateE (k : List UInt8) (d : Int) : ∀ (es : List Entry) (acc : Int) (out : List Int) (lo hi : Int), (∀ e, e ∈ es → d < e.Day) →
    loopL (gF d) (ps k es acc) out = .ok (out ++ (ps k es acc).map Prod.snd) ∧ (∀ s, st1 k d es s = s) ∧
    (st2 k d es (acc, lo, hi)).2 = (((ps k es acc).map Prod.snd).foldl spec_l00Min lo, ((ps k es acc).map Prod.snd).foldl spec_l00Max hi)
  | [], acc, out, lo, hi, _ => by simp [ps, loopL, st1, st2]
  | e :: t, acc, out, lo, hi, h => by
    have he := h e (List.mem_cons_self ..)
    have ht := fun x hx => h x (List.mem_cons_of_mem _ hx)
    have hd1 : decide (e.Day ≤ d) = false := by simp; omega
    have hd2 : decide (d < e.Day) = true := by simp; omega
    simp only [ps, st1, st2, hd1, hd2, Bool.and_false, Bool.and_true, cond_false]
    cases hk : e.Item == k with
    | true =>
      simp only [cond_true, loopL_cons, gF, hd1, cond_false, List.map_cons, List.foldl_cons]
      obtain ⟨h1, h2, h3⟩ := lateE k d t (IntKind.wrap .i64 (acc + e.Amount)) (out ++ [IntKind.wrap .i64 (acc + e.Amount)]) (spec_l00Min lo (IntKind.wrap .i64 (acc + e.Amount))) (spec_l00Max hi (IntKind.wrap .i64 (acc + e.Amount))) ht
      refine ⟨?_, h2, h3⟩
      have : loopL (gF d) (ps k t (IntKind.wrap .i64 (acc + e.Amount))) (out ++ [IntKind.wrap .i64 (acc + e.Amount)]) = _ := h1
      rw [this]
      simp
    | false =>
      simp only [cond_false]
      exact lateE k d t acc out lo hi ht
theorem earlyE (k : List UInt8) (d : Int) : ∀ (es : List Entry) (acc : Int), es.Pairwise (fun x y => x.Day ≤ y.Day) →
    ∃ L, loopL (gF d) (ps k es acc) [acc] = .ok (st1 k d es acc :: L) ∧ (st2 k d es (st1 k d es acc, st1 k d es acc, st1 k d es acc)).2 = (L.foldl spec_l00Min (st1 k d es acc), L.foldl spec_l00Max (st1 k d es acc))
  | [], acc, _ => ⟨[], by simp [ps, loopL, st1, st2]⟩
  | e :: t, acc, h => by
    rw [List.pairwise_cons] at h
    by_cases hd : e.Day ≤ d
    · have hd1 : decide (e.Day ≤ d) = true := by simpa using hd
      have hd2 : decide (d < e.Day) = false := by simp; omega
      simp only [ps, st1, st2, hd1, hd2, Bool.and_false, Bool.and_true, cond_false]
      cases hk : e.Item == k with
      | true =>
        simp only [cond_true, loopL_cons]
        exact earlyE k d t (IntKind.wrap .i64 (acc + e.Amount)) h.2 |>.imp fun L hL => ⟨by
          have : gF d (e.Day, IntKind.wrap .i64 (acc + e.Amount)) [acc] = .ok [IntKind.wrap .i64 (acc + e.Amount)] := by simp [gF, hd]
          rw [this]
          exact hL.1, hL.2⟩
      | false =>
        simp only [cond_false]
        exact earlyE k d t acc h.2
    · have hl : ∀ x, x ∈ e :: t → d < x.Day := by
        intro x hx
        rcases List.mem_cons.1 hx with rfl | hx
        · omega
        · have := h.1 x hx; omega
      obtain ⟨h1, h2, h3⟩ := lateE k d (e :: t) acc [acc] acc acc hl
      rw [h2 acc]
      exact ⟨_, h1, h3⟩
theorem fromDay_eq (a : Store) (k : List UInt8) (d : Int) (hok : OkS a) : ∃ L, impl_Store_fromDay a k d = (spec_l29Stock a k d).1 :: L ∧ (spec_l29Stock a k d).2 = (L.foldl spec_l00Min (spec_l29Stock a k d).1, L.foldl spec_l00Max (spec_l29Stock a k d).1) := by
  rw [stock_eq]
  obtain ⟨L, h1, h2⟩ := earlyE k d a.Entries 0 (days_le a hok)
  refine ⟨L, ?_, h2⟩
  unfold impl_Store_fromDay
  have hlen : (impl_Store_sums a k).1.length = (ps k a.Entries 0).length := by rw [sums_eq]; simp
  rw [hlen, loopR_list0 (b := impl_Store_fromDay_b1 a k d) (gF d) (ps k a.Entries 0) _ (fun j u hj => by
    simp only [impl_Store_fromDay_b1, sums_eq, getD_map Prod.fst _ j hj, getD_map Prod.snd _ j hj]; rfl), h1]
theorem min_eq (x : Int) (L : List Int) : slices_Min_int64 (x :: L) = L.foldl spec_l00Min x := by
  unfold slices_Min_int64
  rw [loopR_list (b := slices_Min_int64_b1 (x :: L)) (fun y s => .ok (if y < s then y else s)) (x :: L) _ 1 _ (by simp; omega) (fun j u _ _ => rfl)]
  simp only [List.drop_succ_cons, List.drop_zero, List.getD_cons_zero]
  have : ∀ (L : List Int) (x : Int), loopL (ρ := Int) (fun y s => .ok (if y < s then y else s)) L x = .ok (L.foldl spec_l00Min x) := by
    intro L
    induction L with
    | nil => intro x; rfl
    | cons y t ih =>
      intro x
      rw [loopL_cons, List.foldl_cons]
      simp only
      rw [ih]
      congr 2
      unfold spec_l00Min
      by_cases h : x < y <;> by_cases h' : y < x <;> simp [h, h'] <;> omega
  rw [this]
theorem max_eq (x : Int) (L : List Int) : slices_Max_int64 (x :: L) = L.foldl spec_l00Max x := by
  unfold slices_Max_int64
  rw [loopR_list (b := slices_Max_int64_b1 (x :: L)) (fun y s => .ok (if s < y then y else s)) (x :: L) _ 1 _ (by simp; omega) (fun j u _ _ => rfl)]
  simp only [List.drop_succ_cons, List.drop_zero, List.getD_cons_zero]
  have : ∀ (L : List Int) (x : Int), loopL (ρ := Int) (fun y s => .ok (if s < y then y else s)) L x = .ok (L.foldl spec_l00Max x) := by
    intro L
    induction L with
    | nil => intro x; rfl
    | cons y t ih =>
      intro x
      rw [loopL_cons, List.foldl_cons]
      simp only
      rw [ih]
      congr 2
      unfold spec_l00Max
      by_cases h : x < y <;> by_cases h' : y < x <;> simp [h, h'] <;> omega
  rw [this]
end Go.Ab

namespace Go.Ab
open Go Go.Proofs
theorem spec_l29Ask_ix (a : Store) (k : List UInt8) (d : Int) (h : spec_l29Ask a k d = 0) : 0 ≤ spec_l29Find a k ∧ (spec_l29Find a k).toNat < a.Spares.length := by
  unfold spec_l29Ask at h
  cases h1 : spec_l29Ok a with
  | false => rw [h1] at h; simp at h
  | true =>
    cases h2 : spec_l03Day d with
    | false => rw [h1, h2] at h; simp at h
    | true =>
      rcases spec_l29Find_spec a k with ⟨j, g1, _, _, g2⟩ | ⟨_, g2⟩
      · rw [g2]; omega
      · rw [h1, h2, g2] at h; simp at h
end Go.Ab

namespace Go.Ab
open Go Go.Proofs
theorem spec_FreeOn_DD : DOk Try.prog (DD [(85, dP D_spec_l29Ask), (86, dP D_spec_l29Stock)]) := DD_cons D_spec_l29Ask_ok.e <| DD_cons D_spec_l29Stock_ok.e <| DD_nil _
def spec_FreeOn (a0 : Store) (a1 : (List UInt8)) (a2 : Int) : (Int × Int) :=
  (bif ((spec_l29Ask a0 a1 a2) != 0) then (0, (spec_l29Ask a0 a1 a2)) else ((spec_l29Stock a0 a1 a2).2.1, 0))

theorem spec_FreeOn_den (a0 : Store) (a1 : (List UInt8)) (a2 : Int)  : Den Try.prog 31 [.agg (eStore a0), .str a1, .int .i64 a2] (.tup [.int .i64 ((spec_FreeOn a0 a1 a2).1), .int .i64 ((spec_FreeOn a0 a1 a2).2)]) := by
  generalize hR : spec_FreeOn a0 a1 a2 = r
  unfold spec_FreeOn at hR
  refine den_intro G_ok Try.func31 (by kernel_rfl) rfl Try.ntmps31 (by rw [Try.results31]) (by simp) rfl ?_
  intro c hL hc hk
  obtain ⟨hL0, hL1, hL2, _⟩ := hL
  have hw0 : bwStore a0 := Store_lens a0 hL0
  have hw1 : a1.length < 9223372036854775808 := Nat.lt_succ_of_le hL1
  clear hL0 hL1 hL2
  simp only [pars, Nat.zero_add]
  refine AWP.seq ?_
  refine AWP.regS G_ok spec_FreeOn_DD hc (by kernel_rfl) (fun K hK => ?_); simp only [ea, gv, sv, D_spec_l29Ask, D_spec_l29Stock, reduceCtorEq, reduceIte, Nat.reduceBEq, Nat.reduceAdd, Nat.reduceEqDiff, Nat.reduceLT, Nat.reduceLeDiff, Nat.reduceMul, Nat.reduceSub, BEq.rfl, beq_self_eq_true, Int.reduceToNat]
  first | refine hK _ ?_ | refine ⟨by (first | trivial | omega | (simp only [ob, ln, bdv, sv] at *; omega) | ((try clear hK K); (repeat' first | apply And.intro | intro _) <;> first | trivial | omega | assumption | solve_by_elim | (apply bd_getD <;> first | assumption | decide) | (apply bd_subL <;> first | assumption | decide) | (simp only [ob, ln, bdv, sv] at *; first | done | omega | assumption | (simp_all; done) | grind [spec_l29Ask_ix]))), hK _ ?_⟩
  clear hK K
  refine AWP.seq ?_
  refine AWP.regS G_ok spec_FreeOn_DD hc (by kernel_rfl) (fun K hK => ?_); simp only [ea, gv, sv, D_spec_l29Ask, D_spec_l29Stock, reduceCtorEq, reduceIte, Nat.reduceBEq, Nat.reduceAdd, Nat.reduceEqDiff, Nat.reduceLT, Nat.reduceLeDiff, Nat.reduceMul, Nat.reduceSub, BEq.rfl, beq_self_eq_true, Int.reduceToNat]
  first | refine hK _ ?_ | refine ⟨by (first | trivial | omega | (simp only [ob, ln, bdv, sv] at *; omega) | ((try clear hK K); (repeat' first | apply And.intro | intro _) <;> first | trivial | omega | assumption | solve_by_elim | (apply bd_getD <;> first | assumption | decide) | (apply bd_subL <;> first | assumption | decide) | (simp only [ob, ln, bdv, sv] at *; first | done | omega | assumption | (simp_all; done) | grind [spec_l29Ask_ix]))), hK _ ?_⟩
  clear hK K
  refine AWP.seq ?_
  refine AWP.seq ?_
  refine AWP.regS G_ok spec_FreeOn_DD hc (by kernel_rfl) (fun K hK => ?_); simp only [ea, gv, sv, D_spec_l29Ask, D_spec_l29Stock, reduceCtorEq, reduceIte, Nat.reduceBEq, Nat.reduceAdd, Nat.reduceEqDiff, Nat.reduceLT, Nat.reduceLeDiff, Nat.reduceMul, Nat.reduceSub, BEq.rfl, beq_self_eq_true, Int.reduceToNat]
  first | refine hK _ ?_ | refine ⟨by (first | trivial | omega | (simp only [ob, ln, bdv, sv] at *; omega) | ((try clear hK K); (repeat' first | apply And.intro | intro _) <;> first | trivial | omega | assumption | solve_by_elim | (apply bd_getD <;> first | assumption | decide) | (apply bd_subL <;> first | assumption | decide) | (simp only [ob, ln, bdv, sv] at *; first | done | omega | assumption | (simp_all; done) | grind [spec_l29Ask_ix]))), hK _ ?_⟩
  clear hK K
  refine AWP.cond rfl (fun hb => ?_) (fun hb => ?_)
  · first | simp only [hb, cond_true] at hR | (simp only [*] at hb; simp only [hb, cond_true] at hR)
    refine AWP.seq ?_
    refine AWP.regS G_ok spec_FreeOn_DD hc (by kernel_rfl) (fun K hK => ?_); simp only [ea, gv, sv, D_spec_l29Ask, D_spec_l29Stock, reduceCtorEq, reduceIte, Nat.reduceBEq, Nat.reduceAdd, Nat.reduceEqDiff, Nat.reduceLT, Nat.reduceLeDiff, Nat.reduceMul, Nat.reduceSub, BEq.rfl, beq_self_eq_true, Int.reduceToNat]
    first | refine hK _ ?_ | refine ⟨by (first | trivial | omega | (simp only [ob, ln, bdv, sv] at *; omega) | ((try clear hK K); (repeat' first | apply And.intro | intro _) <;> first | trivial | omega | assumption | solve_by_elim | (apply bd_getD <;> first | assumption | decide) | (apply bd_subL <;> first | assumption | decide) | (simp only [ob, ln, bdv, sv] at *; first | done | omega | assumption | (simp_all; done) | grind [spec_l29Ask_ix]))), hK _ ?_⟩
    clear hK K
    refine AWP.ret ?_
    subst hR
    (simp only [en, si, ea, gv, sv, hk, reduceCtorEq, reduceIte, Nat.reduceBEq, Nat.reduceAdd, Nat.reduceEqDiff, Nat.reduceLT, Nat.reduceLeDiff, Nat.reduceMul, Nat.reduceSub, BEq.rfl, beq_self_eq_true, Int.reduceToNat]; first | done | trivial | (and_intros <;> first | rfl | trivial | omega | (rw [IntKind.wrap_i64]; omega) | (simp only [ln]; done) | (simp only [ob, ln, bdv, sv] at *; first | done | omega | grind [spec_l29Ask_ix]) | (left; intro j hj; simp only [pw, Bool.cond_eq_ite, Bool.and_eq_true, decide_eq_true_eq]; (repeat' split) <;> simp [putL, NoBorL, NoBor]) | (intro j hj; simp only [pw, Bool.cond_eq_ite]; (repeat' split) <;> first | rfl | (simp [pureL, pureV, borrowL, borrow, NoBorL, NoBor]; done) | (left; simp [pureL, pureV, borrowL, borrow, NoBorL, NoBor]; done) | omega) | (intro j hj; simp only [pw, Bool.cond_eq_ite, Bool.and_eq_true, decide_eq_true_eq]; (try rw [subL_getD _ _ _ _ (by first | assumption | omega)]); (try rw [clearL_getD _ _ _ _ (by first | omega | (simp only [ob, ln, bdv] at *; omega))]); (repeat' split) <;> first | rfl | omega | exact simOL_refl _ | (simp_all; done) | (simp_all; rfl) | (simp_all; omega) | (simp_all; exact simOL_refl _) | (simp [putL, NoBorL, NoBor]; done))))
  · first | simp only [hb, cond_false] at hR | (simp only [*] at hb; simp only [hb, cond_false] at hR)
    refine AWP.skip ?_
    refine AWP.seq ?_
    refine AWP.regS G_ok spec_FreeOn_DD hc (by kernel_rfl) (fun K hK => ?_); simp only [ea, gv, sv, D_spec_l29Ask, D_spec_l29Stock, reduceCtorEq, reduceIte, Nat.reduceBEq, Nat.reduceAdd, Nat.reduceEqDiff, Nat.reduceLT, Nat.reduceLeDiff, Nat.reduceMul, Nat.reduceSub, BEq.rfl, beq_self_eq_true, Int.reduceToNat]
    first | refine hK _ ?_ | refine ⟨by (first | trivial | omega | (simp only [ob, ln, bdv, sv] at *; omega) | ((try clear hK K); (repeat' first | apply And.intro | intro _) <;> first | trivial | omega | assumption | solve_by_elim | (apply bd_getD <;> first | assumption | decide) | (apply bd_subL <;> first | assumption | decide) | (simp only [ob, ln, bdv, sv] at *; first | done | omega | assumption | (simp_all; done) | grind [spec_l29Ask_ix]))), hK _ ?_⟩
    clear hK K
    refine AWP.seq ?_
    refine AWP.regS G_ok spec_FreeOn_DD hc (by kernel_rfl) (fun K hK => ?_); simp only [ea, gv, sv, D_spec_l29Ask, D_spec_l29Stock, reduceCtorEq, reduceIte, Nat.reduceBEq, Nat.reduceAdd, Nat.reduceEqDiff, Nat.reduceLT, Nat.reduceLeDiff, Nat.reduceMul, Nat.reduceSub, BEq.rfl, beq_self_eq_true, Int.reduceToNat]
    first | refine hK _ ?_ | refine ⟨by (first | trivial | omega | (simp only [ob, ln, bdv, sv] at *; omega) | ((try clear hK K); (repeat' first | apply And.intro | intro _) <;> first | trivial | omega | assumption | solve_by_elim | (apply bd_getD <;> first | assumption | decide) | (apply bd_subL <;> first | assumption | decide) | (simp only [ob, ln, bdv, sv] at *; first | done | omega | assumption | (simp_all; done) | grind [spec_l29Ask_ix]))), hK _ ?_⟩
    clear hK K
    refine AWP.ret ?_
    subst hR
    (simp only [en, si, ea, gv, sv, hk, reduceCtorEq, reduceIte, Nat.reduceBEq, Nat.reduceAdd, Nat.reduceEqDiff, Nat.reduceLT, Nat.reduceLeDiff, Nat.reduceMul, Nat.reduceSub, BEq.rfl, beq_self_eq_true, Int.reduceToNat]; first | done | trivial | (and_intros <;> first | rfl | trivial | omega | (rw [IntKind.wrap_i64]; omega) | (simp only [ln]; done) | (simp only [ob, ln, bdv, sv] at *; first | done | omega | grind [spec_l29Ask_ix]) | (left; intro j hj; simp only [pw, Bool.cond_eq_ite, Bool.and_eq_true, decide_eq_true_eq]; (repeat' split) <;> simp [putL, NoBorL, NoBor]) | (intro j hj; simp only [pw, Bool.cond_eq_ite]; (repeat' split) <;> first | rfl | (simp [pureL, pureV, borrowL, borrow, NoBorL, NoBor]; done) | (left; simp [pureL, pureV, borrowL, borrow, NoBorL, NoBor]; done) | omega) | (intro j hj; simp only [pw, Bool.cond_eq_ite, Bool.and_eq_true, decide_eq_true_eq]; (try rw [subL_getD _ _ _ _ (by first | assumption | omega)]); (try rw [clearL_getD _ _ _ _ (by first | omega | (simp only [ob, ln, bdv] at *; omega))]); (repeat' split) <;> first | rfl | omega | exact simOL_refl _ | (simp_all; done) | (simp_all; rfl) | (simp_all; omega) | (simp_all; exact simOL_refl _) | (simp [putL, NoBorL, NoBor]; done))))

def D_spec_FreeOn : DF
  | [x0, x1, x2] => some (.tup [.int .i64 ((spec_FreeOn (rdG dStore x0) (rdS x1) (rdI x2)).1), .int .i64 ((spec_FreeOn (rdG dStore x0) (rdS x1) (rdI x2)).2)], false, [wG eStore dStore x0, wS x1, wI .i64 x2])
  | _ => none
theorem D_spec_FreeOn_ok : OkD Try.prog 31 D_spec_FreeOn := by
  intro xs r z ob h ho
  unfold D_spec_FreeOn at h
  split at h
  · simp only [Option.some.injEq, Prod.mk.injEq] at h
    obtain ⟨rfl, rfl, rfl⟩ := h
    obtain ⟨h0, h1, h2, _⟩ := ho
    exact Den.sim (spec_FreeOn_den _ _ _ ) (simOL_cons (wG_sim h0).1 <| simOL_cons (wS_sim h1).1 <| simOL_cons (wI_sim h2).1 <| trivial) (noIdL_cons (wG_sim h0).2 <| noIdL_cons (wS_sim h1).2 <| noIdL_cons (wI_sim h2).2 <| rfl) rfl
  · cases h
end Go.Ab

namespace Go.Ab
open Go Go.Proofs
theorem impl_stockCode_ix (a : Store) (k : List UInt8) (d : Int) (hl : a.Spares.length < 9223372036854775808) (h : (impl_stockCode a k d).2 = 0) : 0 ≤ (impl_stockCode a k d).1 ∧ (impl_stockCode a k d).1.toNat < a.Spares.length := by
  unfold impl_stockCode at h ⊢
  cases h1 : impl_ValidStore a with
  | false => rw [h1] at h; simp at h
  | true =>
    cases h2 : impl_isDay d with
    | false => rw [h1, h2] at h; simp at h
    | true =>
      cases h3 : (impl_Store_spareOf a k).2 with
      | false => rw [h1, h2, h3] at h; simp at h
      | true =>
        simp only [Bool.not_true, cond_false]
        exact impl_Store_spareOf_ix a k hl h3
end Go.Ab

namespace Go.Ab
open Go Go.Proofs
theorem impl_FreeOn_DD : DOk Try.prog (DD [(87, dP D_impl_stockCode), (88, dP D_impl_Store_fromDay), (89, dP D_slices_Min_int64)]) := DD_cons D_impl_stockCode_ok.e <| DD_cons D_impl_Store_fromDay_ok.e <| DD_cons D_slices_Min_int64_ok.e <| DD_nil _
def impl_FreeOn (a0 : Store) (a1 : (List UInt8)) (a2 : Int) : (Int × Int) :=
  (bif (((impl_stockCode a0 a1 a2).2) != 0) then (0, (impl_stockCode a0 a1 a2).2) else ((slices_Min_int64 (impl_Store_fromDay a0 a1 a2)), 0))

theorem impl_FreeOn_den (a0 : Store) (a1 : (List UInt8)) (a2 : Int) (hb0 : bdStore a0) (hb1 : a1.length < 1099511627776) : Den Try.prog 32 [.agg (eStore a0), .str a1, .int .i64 a2] (.tup [.int .i64 ((impl_FreeOn a0 a1 a2).1), .int .i64 ((impl_FreeOn a0 a1 a2).2)]) := by
  generalize hR : impl_FreeOn a0 a1 a2 = r
  unfold impl_FreeOn at hR
  refine den_intro G_ok Try.func32 (by kernel_rfl) rfl Try.ntmps32 (by rw [Try.results32]) (by simp) rfl ?_
  intro c hL hc hk
  obtain ⟨hL0, hL1, hL2, _⟩ := hL
  have hw0 : bwStore a0 := Store_lens a0 hL0
  have hw1 : a1.length < 9223372036854775808 := Nat.lt_succ_of_le hL1
  clear hL0 hL1 hL2
  simp only [pars, Nat.zero_add]
  refine AWP.seq ?_
  refine AWP.regS G_ok impl_FreeOn_DD hc (by kernel_rfl) (fun K hK => ?_); simp only [ea, gv, sv, D_impl_stockCode, D_impl_Store_fromDay, D_slices_Min_int64, reduceCtorEq, reduceIte, Nat.reduceBEq, Nat.reduceAdd, Nat.reduceEqDiff, Nat.reduceLT, Nat.reduceLeDiff, Nat.reduceMul, Nat.reduceSub, BEq.rfl, beq_self_eq_true, Int.reduceToNat]
  first | refine hK _ ?_ | refine ⟨by (first | trivial | omega | (simp only [ob, ln, bdv, sv] at *; omega) | ((try clear hK K); (repeat' first | apply And.intro | intro _) <;> first | trivial | omega | assumption | solve_by_elim | (apply bd_getD <;> first | assumption | decide) | (apply bd_subL <;> first | assumption | decide) | (simp only [ob, ln, bdv, sv] at *; first | done | omega | assumption | (simp_all; done) | grind [impl_stockCode_ix, impl_Store_fromDay_len]))), hK _ ?_⟩
  clear hK K
  refine AWP.seq ?_
  refine AWP.seq ?_
  refine AWP.regS G_ok impl_FreeOn_DD hc (by kernel_rfl) (fun K hK => ?_); simp only [ea, gv, sv, D_impl_stockCode, D_impl_Store_fromDay, D_slices_Min_int64, reduceCtorEq, reduceIte, Nat.reduceBEq, Nat.reduceAdd, Nat.reduceEqDiff, Nat.reduceLT, Nat.reduceLeDiff, Nat.reduceMul, Nat.reduceSub, BEq.rfl, beq_self_eq_true, Int.reduceToNat]
  first | refine hK _ ?_ | refine ⟨by (first | trivial | omega | (simp only [ob, ln, bdv, sv] at *; omega) | ((try clear hK K); (repeat' first | apply And.intro | intro _) <;> first | trivial | omega | assumption | solve_by_elim | (apply bd_getD <;> first | assumption | decide) | (apply bd_subL <;> first | assumption | decide) | (simp only [ob, ln, bdv, sv] at *; first | done | omega | assumption | (simp_all; done) | grind [impl_stockCode_ix, impl_Store_fromDay_len]))), hK _ ?_⟩
  clear hK K
  refine AWP.seq ?_
  refine AWP.regS G_ok impl_FreeOn_DD hc (by kernel_rfl) (fun K hK => ?_); simp only [ea, gv, sv, D_impl_stockCode, D_impl_Store_fromDay, D_slices_Min_int64, reduceCtorEq, reduceIte, Nat.reduceBEq, Nat.reduceAdd, Nat.reduceEqDiff, Nat.reduceLT, Nat.reduceLeDiff, Nat.reduceMul, Nat.reduceSub, BEq.rfl, beq_self_eq_true, Int.reduceToNat]
  first | refine hK _ ?_ | refine ⟨by (first | trivial | omega | (simp only [ob, ln, bdv, sv] at *; omega) | ((try clear hK K); (repeat' first | apply And.intro | intro _) <;> first | trivial | omega | assumption | solve_by_elim | (apply bd_getD <;> first | assumption | decide) | (apply bd_subL <;> first | assumption | decide) | (simp only [ob, ln, bdv, sv] at *; first | done | omega | assumption | (simp_all; done) | grind [impl_stockCode_ix, impl_Store_fromDay_len]))), hK _ ?_⟩
  clear hK K
  refine AWP.cond rfl (fun hb => ?_) (fun hb => ?_)
  · first | simp only [hb, cond_true] at hR | (simp only [*] at hb; simp only [hb, cond_true] at hR)
    refine AWP.seq ?_
    refine AWP.regS G_ok impl_FreeOn_DD hc (by kernel_rfl) (fun K hK => ?_); simp only [ea, gv, sv, D_impl_stockCode, D_impl_Store_fromDay, D_slices_Min_int64, reduceCtorEq, reduceIte, Nat.reduceBEq, Nat.reduceAdd, Nat.reduceEqDiff, Nat.reduceLT, Nat.reduceLeDiff, Nat.reduceMul, Nat.reduceSub, BEq.rfl, beq_self_eq_true, Int.reduceToNat]
    first | refine hK _ ?_ | refine ⟨by (first | trivial | omega | (simp only [ob, ln, bdv, sv] at *; omega) | ((try clear hK K); (repeat' first | apply And.intro | intro _) <;> first | trivial | omega | assumption | solve_by_elim | (apply bd_getD <;> first | assumption | decide) | (apply bd_subL <;> first | assumption | decide) | (simp only [ob, ln, bdv, sv] at *; first | done | omega | assumption | (simp_all; done) | grind [impl_stockCode_ix, impl_Store_fromDay_len]))), hK _ ?_⟩
    clear hK K
    refine AWP.ret ?_
    subst hR
    (simp only [en, si, ea, gv, sv, hk, reduceCtorEq, reduceIte, Nat.reduceBEq, Nat.reduceAdd, Nat.reduceEqDiff, Nat.reduceLT, Nat.reduceLeDiff, Nat.reduceMul, Nat.reduceSub, BEq.rfl, beq_self_eq_true, Int.reduceToNat]; first | done | trivial | (and_intros <;> first | rfl | trivial | omega | (rw [IntKind.wrap_i64]; omega) | (simp only [ln]; done) | (simp only [ob, ln, bdv, sv] at *; first | done | omega | grind [impl_stockCode_ix, impl_Store_fromDay_len]) | (left; intro j hj; simp only [pw, Bool.cond_eq_ite, Bool.and_eq_true, decide_eq_true_eq]; (repeat' split) <;> simp [putL, NoBorL, NoBor]) | (intro j hj; simp only [pw, Bool.cond_eq_ite]; (repeat' split) <;> first | rfl | (simp [pureL, pureV, borrowL, borrow, NoBorL, NoBor]; done) | (left; simp [pureL, pureV, borrowL, borrow, NoBorL, NoBor]; done) | omega) | (intro j hj; simp only [pw, Bool.cond_eq_ite, Bool.and_eq_true, decide_eq_true_eq]; (try rw [subL_getD _ _ _ _ (by first | assumption | omega)]); (try rw [clearL_getD _ _ _ _ (by first | omega | (simp only [ob, ln, bdv] at *; omega))]); (repeat' split) <;> first | rfl | omega | exact simOL_refl _ | (simp_all; done) | (simp_all; rfl) | (simp_all; omega) | (simp_all; exact simOL_refl _) | (simp [putL, NoBorL, NoBor]; done))))
  · first | simp only [hb, cond_false] at hR | (simp only [*] at hb; simp only [hb, cond_false] at hR)
    refine AWP.skip ?_
    refine AWP.seq ?_
    refine AWP.regS G_ok impl_FreeOn_DD hc (by kernel_rfl) (fun K hK => ?_); simp only [ea, gv, sv, D_impl_stockCode, D_impl_Store_fromDay, D_slices_Min_int64, reduceCtorEq, reduceIte, Nat.reduceBEq, Nat.reduceAdd, Nat.reduceEqDiff, Nat.reduceLT, Nat.reduceLeDiff, Nat.reduceMul, Nat.reduceSub, BEq.rfl, beq_self_eq_true, Int.reduceToNat]
    first | refine hK _ ?_ | refine ⟨by (first | trivial | omega | (simp only [ob, ln, bdv, sv] at *; omega) | ((try clear hK K); (repeat' first | apply And.intro | intro _) <;> first | trivial | omega | assumption | solve_by_elim | (apply bd_getD <;> first | assumption | decide) | (apply bd_subL <;> first | assumption | decide) | (simp only [ob, ln, bdv, sv] at *; first | done | omega | assumption | (simp_all; done) | grind [impl_stockCode_ix, impl_Store_fromDay_len]))), hK _ ?_⟩
    clear hK K
    refine AWP.ret ?_
    subst hR
    (simp only [en, si, ea, gv, sv, hk, reduceCtorEq, reduceIte, Nat.reduceBEq, Nat.reduceAdd, Nat.reduceEqDiff, Nat.reduceLT, Nat.reduceLeDiff, Nat.reduceMul, Nat.reduceSub, BEq.rfl, beq_self_eq_true, Int.reduceToNat]; first | done | trivial | (and_intros <;> first | rfl | trivial | omega | (rw [IntKind.wrap_i64]; omega) | (simp only [ln]; done) | (simp only [ob, ln, bdv, sv] at *; first | done | omega | grind [impl_stockCode_ix, impl_Store_fromDay_len]) | (left; intro j hj; simp only [pw, Bool.cond_eq_ite, Bool.and_eq_true, decide_eq_true_eq]; (repeat' split) <;> simp [putL, NoBorL, NoBor]) | (intro j hj; simp only [pw, Bool.cond_eq_ite]; (repeat' split) <;> first | rfl | (simp [pureL, pureV, borrowL, borrow, NoBorL, NoBor]; done) | (left; simp [pureL, pureV, borrowL, borrow, NoBorL, NoBor]; done) | omega) | (intro j hj; simp only [pw, Bool.cond_eq_ite, Bool.and_eq_true, decide_eq_true_eq]; (try rw [subL_getD _ _ _ _ (by first | assumption | omega)]); (try rw [clearL_getD _ _ _ _ (by first | omega | (simp only [ob, ln, bdv] at *; omega))]); (repeat' split) <;> first | rfl | omega | exact simOL_refl _ | (simp_all; done) | (simp_all; rfl) | (simp_all; omega) | (simp_all; exact simOL_refl _) | (simp [putL, NoBorL, NoBor]; done))))

def D_impl_FreeOn : DF
  | [x0, x1, x2] => some (.tup [.int .i64 ((impl_FreeOn (rdG dStore x0) (rdS x1) (rdI x2)).1), .int .i64 ((impl_FreeOn (rdG dStore x0) (rdS x1) (rdI x2)).2)], false, [wG eStore dStore x0, wS x1, wI .i64 x2, bdStore (rdG dStore x0), (rdS x1).length < 1099511627776])
  | _ => none
theorem D_impl_FreeOn_ok : OkD Try.prog 32 D_impl_FreeOn := by
  intro xs r z ob h ho
  unfold D_impl_FreeOn at h
  split at h
  · simp only [Option.some.injEq, Prod.mk.injEq] at h
    obtain ⟨rfl, rfl, rfl⟩ := h
    obtain ⟨h0, h1, h2, hb0, hb1, _⟩ := ho
    exact Den.sim (impl_FreeOn_den _ _ _ hb0 hb1) (simOL_cons (wG_sim h0).1 <| simOL_cons (wS_sim h1).1 <| simOL_cons (wI_sim h2).1 <| trivial) (noIdL_cons (wG_sim h0).2 <| noIdL_cons (wS_sim h1).2 <| noIdL_cons (wI_sim h2).2 <| rfl) rfl
  · cases h
end Go.Ab

namespace Go.Ab
open Go Go.Proofs
theorem laws_FnExactFreeOn_DD : DOk Try.prog (DD [(15, dP D_laws_szStore), (17, dP D_laws_toStore), (19, dP D_laws_eqStore), (31, dP D_spec_FreeOn), (32, dP D_impl_FreeOn)]) := DD_cons D_laws_szStore_ok.e <| DD_cons D_laws_toStore_ok.e <| DD_cons D_laws_eqStore_ok.e <| DD_cons D_spec_FreeOn_ok.e <| DD_cons D_impl_FreeOn_ok.e <| DD_nil _
theorem laws_FnExactFreeOn_DZ : DOk Try.prog (DD [(15, dP D_laws_szStore), (17, dP Dz_laws_toStore), (19, dP D_laws_eqStore), (31, dP D_spec_FreeOn), (32, dP D_impl_FreeOn)]) := DD_cons D_laws_szStore_ok.e <| DD_cons Dz_laws_toStore_ok.e <| DD_cons D_laws_eqStore_ok.e <| DD_cons D_spec_FreeOn_ok.e <| DD_cons D_impl_FreeOn_ok.e <| DD_nil _
def laws_FnExactFreeOn (a0 : Store) (a1 : (List UInt8)) (a2 : Int) : Bool :=
  (bif decide (1048576 < (a1.length : Int)) then true else (bif decide ((laws_szStore a0 1048576) < 0) then true else (bif ((((impl_FreeOn ({ Spares := (laws_toStore a0).Spares, Entries := (laws_toStore a0).Entries : Store }) a1 a2).1) != ((spec_FreeOn ({ Spares := (laws_toStore a0).Spares, Entries := (laws_toStore a0).Entries : Store }) a1 a2).1)) || (((impl_FreeOn ({ Spares := (laws_toStore a0).Spares, Entries := (laws_toStore a0).Entries : Store }) a1 a2).2) != ((spec_FreeOn ({ Spares := (laws_toStore a0).Spares, Entries := (laws_toStore a0).Entries : Store }) a1 a2).2))) then false else (bif (!(laws_eqStore ({ Spares := (laws_toStore a0).Spares, Entries := (laws_toStore a0).Entries : Store }) (laws_toStore a0))) then false else true))))

theorem laws_FnExactFreeOn_den (a0 : Store) (a1 : (List UInt8)) (a2 : Int)  : Den Try.prog 7 [.agg (eStore a0), .str a1, .int .i64 a2] (.bool (laws_FnExactFreeOn a0 a1 a2)) := by
  generalize hR : laws_FnExactFreeOn a0 a1 a2 = r
  unfold laws_FnExactFreeOn at hR
  refine den_intro G_ok Try.func7 (by kernel_rfl) rfl Try.ntmps7 (by rw [Try.results7]) (by simp) rfl ?_
  intro c hL hc hk
  obtain ⟨hL0, hL1, hL2, _⟩ := hL
  have hw0 : bwStore a0 := Store_lens a0 hL0
  have hw1 : a1.length < 9223372036854775808 := Nat.lt_succ_of_le hL1
  clear hL0 hL1 hL2
  simp only [pars, Nat.zero_add]
  have hf0 := laws_szStore_facts a0 (1048576) (by omega) (by omega) hw0
  refine AWP.seq ?_
  refine AWP.regS G_ok laws_FnExactFreeOn_DD hc (by kernel_rfl) (fun K hK => ?_); simp only [ea, gv, sv, D_laws_szStore, D_laws_toStore, D_laws_eqStore, D_spec_FreeOn, D_impl_FreeOn, Dz_laws_toStore, reduceCtorEq, reduceIte, Nat.reduceBEq, Nat.reduceAdd, Nat.reduceEqDiff, Nat.reduceLT, Nat.reduceLeDiff, Nat.reduceMul, Nat.reduceSub, BEq.rfl, beq_self_eq_true, Int.reduceToNat]
  first | refine hK _ ?_ | refine ⟨by (first | trivial | omega | (simp only [ob, ln, bdv, laws_toStore_id, sv] at *; omega) | ((try clear hK K); (repeat' first | apply And.intro | intro _) <;> first | trivial | omega | assumption | solve_by_elim | (apply bd_getD <;> first | assumption | decide) | (apply bd_subL <;> first | assumption | decide) | (simp only [ob, ln, bdv, laws_toStore_id, sv] at *; first | done | omega | assumption | (simp_all; done) | grind))), hK _ ?_⟩
  clear hK K
  refine AWP.seq ?_
  refine AWP.seq ?_
  refine AWP.regS G_ok laws_FnExactFreeOn_DD hc (by kernel_rfl) (fun K hK => ?_); simp only [ea, gv, sv, D_laws_szStore, D_laws_toStore, D_laws_eqStore, D_spec_FreeOn, D_impl_FreeOn, Dz_laws_toStore, reduceCtorEq, reduceIte, Nat.reduceBEq, Nat.reduceAdd, Nat.reduceEqDiff, Nat.reduceLT, Nat.reduceLeDiff, Nat.reduceMul, Nat.reduceSub, BEq.rfl, beq_self_eq_true, Int.reduceToNat]
  first | refine hK _ ?_ | refine ⟨by (first | trivial | omega | (simp only [ob, ln, bdv, laws_toStore_id, sv] at *; omega) | ((try clear hK K); (repeat' first | apply And.intro | intro _) <;> first | trivial | omega | assumption | solve_by_elim | (apply bd_getD <;> first | assumption | decide) | (apply bd_subL <;> first | assumption | decide) | (simp only [ob, ln, bdv, laws_toStore_id, sv] at *; first | done | omega | assumption | (simp_all; done) | grind))), hK _ ?_⟩
  clear hK K
  refine AWP.cond rfl (fun hb => ?_) (fun hb => ?_)
  · first | simp only [hb, cond_true] at hR | (simp only [*] at hb; simp only [hb, cond_true] at hR)
    refine AWP.seq ?_
    refine AWP.regS G_ok laws_FnExactFreeOn_DD hc (by kernel_rfl) (fun K hK => ?_); simp only [ea, gv, sv, D_laws_szStore, D_laws_toStore, D_laws_eqStore, D_spec_FreeOn, D_impl_FreeOn, Dz_laws_toStore, reduceCtorEq, reduceIte, Nat.reduceBEq, Nat.reduceAdd, Nat.reduceEqDiff, Nat.reduceLT, Nat.reduceLeDiff, Nat.reduceMul, Nat.reduceSub, BEq.rfl, beq_self_eq_true, Int.reduceToNat]
    first | refine hK _ ?_ | refine ⟨by (first | trivial | omega | (simp only [ob, ln, bdv, laws_toStore_id, sv] at *; omega) | ((try clear hK K); (repeat' first | apply And.intro | intro _) <;> first | trivial | omega | assumption | solve_by_elim | (apply bd_getD <;> first | assumption | decide) | (apply bd_subL <;> first | assumption | decide) | (simp only [ob, ln, bdv, laws_toStore_id, sv] at *; first | done | omega | assumption | (simp_all; done) | grind))), hK _ ?_⟩
    clear hK K
    refine AWP.ret ?_
    subst hR
    (simp only [en, si, ea, gv, sv, hk, reduceCtorEq, reduceIte, Nat.reduceBEq, Nat.reduceAdd, Nat.reduceEqDiff, Nat.reduceLT, Nat.reduceLeDiff, Nat.reduceMul, Nat.reduceSub, BEq.rfl, beq_self_eq_true, Int.reduceToNat]; first | done | trivial | (and_intros <;> first | rfl | trivial | omega | (rw [IntKind.wrap_i64]; omega) | (simp only [ln]; done) | (simp only [ob, ln, bdv, laws_toStore_id, sv] at *; first | done | omega | grind) | (left; intro j hj; simp only [pw, Bool.cond_eq_ite, Bool.and_eq_true, decide_eq_true_eq]; (repeat' split) <;> simp [putL, NoBorL, NoBor]) | (intro j hj; simp only [pw, Bool.cond_eq_ite]; (repeat' split) <;> first | rfl | (simp [pureL, pureV, borrowL, borrow, NoBorL, NoBor]; done) | (left; simp [pureL, pureV, borrowL, borrow, NoBorL, NoBor]; done) | omega) | (intro j hj; simp only [pw, Bool.cond_eq_ite, Bool.and_eq_true, decide_eq_true_eq]; (try rw [subL_getD _ _ _ _ (by first | assumption | omega)]); (try rw [clearL_getD _ _ _ _ (by first | omega | (simp only [ob, ln, bdv] at *; omega))]); (repeat' split) <;> first | rfl | omega | exact simOL_refl _ | (simp_all; done) | (simp_all; rfl) | (simp_all; omega) | (simp_all; exact simOL_refl _) | (simp [putL, NoBorL, NoBor]; done))))
  · first | simp only [hb, cond_false] at hR | (simp only [*] at hb; simp only [hb, cond_false] at hR)
    refine AWP.skip ?_
    refine AWP.seq ?_
    refine AWP.regS G_ok laws_FnExactFreeOn_DD hc (by kernel_rfl) (fun K hK => ?_); simp only [ea, gv, sv, D_laws_szStore, D_laws_toStore, D_laws_eqStore, D_spec_FreeOn, D_impl_FreeOn, Dz_laws_toStore, reduceCtorEq, reduceIte, Nat.reduceBEq, Nat.reduceAdd, Nat.reduceEqDiff, Nat.reduceLT, Nat.reduceLeDiff, Nat.reduceMul, Nat.reduceSub, BEq.rfl, beq_self_eq_true, Int.reduceToNat]
    first | refine hK _ ?_ | refine ⟨by (first | trivial | omega | (simp only [ob, ln, bdv, laws_toStore_id, sv] at *; omega) | ((try clear hK K); (repeat' first | apply And.intro | intro _) <;> first | trivial | omega | assumption | solve_by_elim | (apply bd_getD <;> first | assumption | decide) | (apply bd_subL <;> first | assumption | decide) | (simp only [ob, ln, bdv, laws_toStore_id, sv] at *; first | done | omega | assumption | (simp_all; done) | grind))), hK _ ?_⟩
    clear hK K
    refine AWP.seq ?_
    refine AWP.regS G_ok laws_FnExactFreeOn_DD hc (by kernel_rfl) (fun K hK => ?_); simp only [ea, gv, sv, D_laws_szStore, D_laws_toStore, D_laws_eqStore, D_spec_FreeOn, D_impl_FreeOn, Dz_laws_toStore, reduceCtorEq, reduceIte, Nat.reduceBEq, Nat.reduceAdd, Nat.reduceEqDiff, Nat.reduceLT, Nat.reduceLeDiff, Nat.reduceMul, Nat.reduceSub, BEq.rfl, beq_self_eq_true, Int.reduceToNat]
    first | refine hK _ ?_ | refine ⟨by (first | trivial | omega | (simp only [ob, ln, bdv, laws_toStore_id, sv] at *; omega) | ((try clear hK K); (repeat' first | apply And.intro | intro _) <;> first | trivial | omega | assumption | solve_by_elim | (apply bd_getD <;> first | assumption | decide) | (apply bd_subL <;> first | assumption | decide) | (simp only [ob, ln, bdv, laws_toStore_id, sv] at *; first | done | omega | assumption | (simp_all; done) | grind))), hK _ ?_⟩
    clear hK K
    refine AWP.seq ?_
    refine AWP.seq ?_
    refine AWP.regS G_ok laws_FnExactFreeOn_DD hc (by kernel_rfl) (fun K hK => ?_); simp only [ea, gv, sv, D_laws_szStore, D_laws_toStore, D_laws_eqStore, D_spec_FreeOn, D_impl_FreeOn, Dz_laws_toStore, reduceCtorEq, reduceIte, Nat.reduceBEq, Nat.reduceAdd, Nat.reduceEqDiff, Nat.reduceLT, Nat.reduceLeDiff, Nat.reduceMul, Nat.reduceSub, BEq.rfl, beq_self_eq_true, Int.reduceToNat]
    first | refine hK _ ?_ | refine ⟨by (first | trivial | omega | (simp only [ob, ln, bdv, laws_toStore_id, sv] at *; omega) | ((try clear hK K); (repeat' first | apply And.intro | intro _) <;> first | trivial | omega | assumption | solve_by_elim | (apply bd_getD <;> first | assumption | decide) | (apply bd_subL <;> first | assumption | decide) | (simp only [ob, ln, bdv, laws_toStore_id, sv] at *; first | done | omega | assumption | (simp_all; done) | grind))), hK _ ?_⟩
    clear hK K
    refine AWP.cond rfl (fun hb => ?_) (fun hb => ?_)
    · first | simp only [hb, cond_true] at hR | (simp only [*] at hb; simp only [hb, cond_true] at hR)
      refine AWP.seq ?_
      refine AWP.regS G_ok laws_FnExactFreeOn_DD hc (by kernel_rfl) (fun K hK => ?_); simp only [ea, gv, sv, D_laws_szStore, D_laws_toStore, D_laws_eqStore, D_spec_FreeOn, D_impl_FreeOn, Dz_laws_toStore, reduceCtorEq, reduceIte, Nat.reduceBEq, Nat.reduceAdd, Nat.reduceEqDiff, Nat.reduceLT, Nat.reduceLeDiff, Nat.reduceMul, Nat.reduceSub, BEq.rfl, beq_self_eq_true, Int.reduceToNat]
      first | refine hK _ ?_ | refine ⟨by (first | trivial | omega | (simp only [ob, ln, bdv, laws_toStore_id, sv] at *; omega) | ((try clear hK K); (repeat' first | apply And.intro | intro _) <;> first | trivial | omega | assumption | solve_by_elim | (apply bd_getD <;> first | assumption | decide) | (apply bd_subL <;> first | assumption | decide) | (simp only [ob, ln, bdv, laws_toStore_id, sv] at *; first | done | omega | assumption | (simp_all; done) | grind))), hK _ ?_⟩
      clear hK K
      refine AWP.ret ?_
      subst hR
      (simp only [en, si, ea, gv, sv, hk, reduceCtorEq, reduceIte, Nat.reduceBEq, Nat.reduceAdd, Nat.reduceEqDiff, Nat.reduceLT, Nat.reduceLeDiff, Nat.reduceMul, Nat.reduceSub, BEq.rfl, beq_self_eq_true, Int.reduceToNat]; first | done | trivial | (and_intros <;> first | rfl | trivial | omega | (rw [IntKind.wrap_i64]; omega) | (simp only [ln]; done) | (simp only [ob, ln, bdv, laws_toStore_id, sv] at *; first | done | omega | grind) | (left; intro j hj; simp only [pw, Bool.cond_eq_ite, Bool.and_eq_true, decide_eq_true_eq]; (repeat' split) <;> simp [putL, NoBorL, NoBor]) | (intro j hj; simp only [pw, Bool.cond_eq_ite]; (repeat' split) <;> first | rfl | (simp [pureL, pureV, borrowL, borrow, NoBorL, NoBor]; done) | (left; simp [pureL, pureV, borrowL, borrow, NoBorL, NoBor]; done) | omega) | (intro j hj; simp only [pw, Bool.cond_eq_ite, Bool.and_eq_true, decide_eq_true_eq]; (try rw [subL_getD _ _ _ _ (by first | assumption | omega)]); (try rw [clearL_getD _ _ _ _ (by first | omega | (simp only [ob, ln, bdv] at *; omega))]); (repeat' split) <;> first | rfl | omega | exact simOL_refl _ | (simp_all; done) | (simp_all; rfl) | (simp_all; omega) | (simp_all; exact simOL_refl _) | (simp [putL, NoBorL, NoBor]; done))))
    · first | simp only [hb, cond_false] at hR | (simp only [*] at hb; simp only [hb, cond_false] at hR)
      refine AWP.skip ?_
      refine AWP.seq ?_
      refine AWP.regS G_ok laws_FnExactFreeOn_DD hc (by kernel_rfl) (fun K hK => ?_); simp only [ea, gv, sv, D_laws_szStore, D_laws_toStore, D_laws_eqStore, D_spec_FreeOn, D_impl_FreeOn, Dz_laws_toStore, reduceCtorEq, reduceIte, Nat.reduceBEq, Nat.reduceAdd, Nat.reduceEqDiff, Nat.reduceLT, Nat.reduceLeDiff, Nat.reduceMul, Nat.reduceSub, BEq.rfl, beq_self_eq_true, Int.reduceToNat]
      first | refine hK _ ?_ | refine ⟨by (first | trivial | omega | (simp only [ob, ln, bdv, laws_toStore_id, sv] at *; omega) | ((try clear hK K); (repeat' first | apply And.intro | intro _) <;> first | trivial | omega | assumption | solve_by_elim | (apply bd_getD <;> first | assumption | decide) | (apply bd_subL <;> first | assumption | decide) | (simp only [ob, ln, bdv, laws_toStore_id, sv] at *; first | done | omega | assumption | (simp_all; done) | grind))), hK _ ?_⟩
      clear hK K
      refine AWP.seq ?_
      refine AWP.regS G_ok laws_FnExactFreeOn_DD hc (by kernel_rfl) (fun K hK => ?_); simp only [ea, gv, sv, D_laws_szStore, D_laws_toStore, D_laws_eqStore, D_spec_FreeOn, D_impl_FreeOn, Dz_laws_toStore, reduceCtorEq, reduceIte, Nat.reduceBEq, Nat.reduceAdd, Nat.reduceEqDiff, Nat.reduceLT, Nat.reduceLeDiff, Nat.reduceMul, Nat.reduceSub, BEq.rfl, beq_self_eq_true, Int.reduceToNat]
      first | refine hK _ ?_ | refine ⟨by (first | trivial | omega | (simp only [ob, ln, bdv, laws_toStore_id, sv] at *; omega) | ((try clear hK K); (repeat' first | apply And.intro | intro _) <;> first | trivial | omega | assumption | solve_by_elim | (apply bd_getD <;> first | assumption | decide) | (apply bd_subL <;> first | assumption | decide) | (simp only [ob, ln, bdv, laws_toStore_id, sv] at *; first | done | omega | assumption | (simp_all; done) | grind))), hK _ ?_⟩
      clear hK K
      refine AWP.seq ?_
      refine AWP.regS G_ok laws_FnExactFreeOn_DD hc (by kernel_rfl) (fun K hK => ?_); simp only [ea, gv, sv, D_laws_szStore, D_laws_toStore, D_laws_eqStore, D_spec_FreeOn, D_impl_FreeOn, Dz_laws_toStore, reduceCtorEq, reduceIte, Nat.reduceBEq, Nat.reduceAdd, Nat.reduceEqDiff, Nat.reduceLT, Nat.reduceLeDiff, Nat.reduceMul, Nat.reduceSub, BEq.rfl, beq_self_eq_true, Int.reduceToNat]
      first | refine hK _ ?_ | refine ⟨by (first | trivial | omega | (simp only [ob, ln, bdv, laws_toStore_id, sv] at *; omega) | ((try clear hK K); (repeat' first | apply And.intro | intro _) <;> first | trivial | omega | assumption | solve_by_elim | (apply bd_getD <;> first | assumption | decide) | (apply bd_subL <;> first | assumption | decide) | (simp only [ob, ln, bdv, laws_toStore_id, sv] at *; first | done | omega | assumption | (simp_all; done) | grind))), hK _ ?_⟩
      clear hK K
      refine AWP.seq ?_
      refine AWP.seq ?_
      refine AWP.regS G_ok laws_FnExactFreeOn_DD hc (by kernel_rfl) (fun K hK => ?_); simp only [ea, gv, sv, D_laws_szStore, D_laws_toStore, D_laws_eqStore, D_spec_FreeOn, D_impl_FreeOn, Dz_laws_toStore, reduceCtorEq, reduceIte, Nat.reduceBEq, Nat.reduceAdd, Nat.reduceEqDiff, Nat.reduceLT, Nat.reduceLeDiff, Nat.reduceMul, Nat.reduceSub, BEq.rfl, beq_self_eq_true, Int.reduceToNat]
      first | refine hK _ ?_ | refine ⟨by (first | trivial | omega | (simp only [ob, ln, bdv, laws_toStore_id, sv] at *; omega) | ((try clear hK K); (repeat' first | apply And.intro | intro _) <;> first | trivial | omega | assumption | solve_by_elim | (apply bd_getD <;> first | assumption | decide) | (apply bd_subL <;> first | assumption | decide) | (simp only [ob, ln, bdv, laws_toStore_id, sv] at *; first | done | omega | assumption | (simp_all; done) | grind))), hK _ ?_⟩
      clear hK K
      refine AWP.cond rfl (fun hb => ?_) (fun hb => ?_)
      · first | simp only [hb, cond_true] at hR | (simp only [*] at hb; simp only [hb, cond_true] at hR)
        refine AWP.seq ?_
        refine AWP.regS G_ok laws_FnExactFreeOn_DD hc (by kernel_rfl) (fun K hK => ?_); simp only [ea, gv, sv, D_laws_szStore, D_laws_toStore, D_laws_eqStore, D_spec_FreeOn, D_impl_FreeOn, Dz_laws_toStore, reduceCtorEq, reduceIte, Nat.reduceBEq, Nat.reduceAdd, Nat.reduceEqDiff, Nat.reduceLT, Nat.reduceLeDiff, Nat.reduceMul, Nat.reduceSub, BEq.rfl, beq_self_eq_true, Int.reduceToNat]
        first | refine hK _ ?_ | refine ⟨by (first | trivial | omega | (simp only [ob, ln, bdv, laws_toStore_id, sv] at *; omega) | ((try clear hK K); (repeat' first | apply And.intro | intro _) <;> first | trivial | omega | assumption | solve_by_elim | (apply bd_getD <;> first | assumption | decide) | (apply bd_subL <;> first | assumption | decide) | (simp only [ob, ln, bdv, laws_toStore_id, sv] at *; first | done | omega | assumption | (simp_all; done) | grind))), hK _ ?_⟩
        clear hK K
        refine AWP.ret ?_
        subst hR
        (simp only [en, si, ea, gv, sv, hk, reduceCtorEq, reduceIte, Nat.reduceBEq, Nat.reduceAdd, Nat.reduceEqDiff, Nat.reduceLT, Nat.reduceLeDiff, Nat.reduceMul, Nat.reduceSub, BEq.rfl, beq_self_eq_true, Int.reduceToNat]; first | done | trivial | (and_intros <;> first | rfl | trivial | omega | (rw [IntKind.wrap_i64]; omega) | (simp only [ln]; done) | (simp only [ob, ln, bdv, laws_toStore_id, sv] at *; first | done | omega | grind) | (left; intro j hj; simp only [pw, Bool.cond_eq_ite, Bool.and_eq_true, decide_eq_true_eq]; (repeat' split) <;> simp [putL, NoBorL, NoBor]) | (intro j hj; simp only [pw, Bool.cond_eq_ite]; (repeat' split) <;> first | rfl | (simp [pureL, pureV, borrowL, borrow, NoBorL, NoBor]; done) | (left; simp [pureL, pureV, borrowL, borrow, NoBorL, NoBor]; done) | omega) | (intro j hj; simp only [pw, Bool.cond_eq_ite, Bool.and_eq_true, decide_eq_true_eq]; (try rw [subL_getD _ _ _ _ (by first | assumption | omega)]); (try rw [clearL_getD _ _ _ _ (by first | omega | (simp only [ob, ln, bdv] at *; omega))]); (repeat' split) <;> first | rfl | omega | exact simOL_refl _ | (simp_all; done) | (simp_all; rfl) | (simp_all; omega) | (simp_all; exact simOL_refl _) | (simp [putL, NoBorL, NoBor]; done))))
      · first | simp only [hb, cond_false] at hR | (simp only [*] at hb; simp only [hb, cond_false] at hR)
        refine AWP.skip ?_
        refine AWP.seq ?_
        refine AWP.seq ?_
        refine AWP.regD mixed G_ok laws_FnExactFreeOn_DZ hc 3 (by kernel_rfl) (by kernel_rfl) (fun K hK => ?_); simp only [ea, gv, sv, D_laws_szStore, D_laws_toStore, D_laws_eqStore, D_spec_FreeOn, D_impl_FreeOn, Dz_laws_toStore, reduceCtorEq, reduceIte, Nat.reduceBEq, Nat.reduceAdd, Nat.reduceEqDiff, Nat.reduceLT, Nat.reduceLeDiff, Nat.reduceMul, Nat.reduceSub, BEq.rfl, beq_self_eq_true, Int.reduceToNat]
        first | refine hK _ ?_ | refine ⟨by (first | trivial | omega | (simp only [ob, ln, bdv, laws_toStore_id, sv] at *; omega) | ((try clear hK K); (repeat' first | apply And.intro | intro _) <;> first | trivial | omega | assumption | solve_by_elim | (apply bd_getD <;> first | assumption | decide) | (apply bd_subL <;> first | assumption | decide) | (simp only [ob, ln, bdv, laws_toStore_id, sv] at *; first | done | omega | assumption | (simp_all; done) | grind))), hK _ ?_⟩
        clear hK K
        refine AWP.cond rfl (fun hb => ?_) (fun hb => ?_)
        · first | simp only [hb, cond_true] at hR | (simp only [*] at hb; simp only [hb, cond_true] at hR)
          refine AWP.seq ?_
          refine AWP.regS G_ok laws_FnExactFreeOn_DD hc (by kernel_rfl) (fun K hK => ?_); simp only [ea, gv, sv, D_laws_szStore, D_laws_toStore, D_laws_eqStore, D_spec_FreeOn, D_impl_FreeOn, Dz_laws_toStore, reduceCtorEq, reduceIte, Nat.reduceBEq, Nat.reduceAdd, Nat.reduceEqDiff, Nat.reduceLT, Nat.reduceLeDiff, Nat.reduceMul, Nat.reduceSub, BEq.rfl, beq_self_eq_true, Int.reduceToNat]
          first | refine hK _ ?_ | refine ⟨by (first | trivial | omega | (simp only [ob, ln, bdv, laws_toStore_id, sv] at *; omega) | ((try clear hK K); (repeat' first | apply And.intro | intro _) <;> first | trivial | omega | assumption | solve_by_elim | (apply bd_getD <;> first | assumption | decide) | (apply bd_subL <;> first | assumption | decide) | (simp only [ob, ln, bdv, laws_toStore_id, sv] at *; first | done | omega | assumption | (simp_all; done) | grind))), hK _ ?_⟩
          clear hK K
          refine AWP.ret ?_
          subst hR
          (simp only [en, si, ea, gv, sv, hk, reduceCtorEq, reduceIte, Nat.reduceBEq, Nat.reduceAdd, Nat.reduceEqDiff, Nat.reduceLT, Nat.reduceLeDiff, Nat.reduceMul, Nat.reduceSub, BEq.rfl, beq_self_eq_true, Int.reduceToNat]; first | done | trivial | (and_intros <;> first | rfl | trivial | omega | (rw [IntKind.wrap_i64]; omega) | (simp only [ln]; done) | (simp only [ob, ln, bdv, laws_toStore_id, sv] at *; first | done | omega | grind) | (left; intro j hj; simp only [pw, Bool.cond_eq_ite, Bool.and_eq_true, decide_eq_true_eq]; (repeat' split) <;> simp [putL, NoBorL, NoBor]) | (intro j hj; simp only [pw, Bool.cond_eq_ite]; (repeat' split) <;> first | rfl | (simp [pureL, pureV, borrowL, borrow, NoBorL, NoBor]; done) | (left; simp [pureL, pureV, borrowL, borrow, NoBorL, NoBor]; done) | omega) | (intro j hj; simp only [pw, Bool.cond_eq_ite, Bool.and_eq_true, decide_eq_true_eq]; (try rw [subL_getD _ _ _ _ (by first | assumption | omega)]); (try rw [clearL_getD _ _ _ _ (by first | omega | (simp only [ob, ln, bdv] at *; omega))]); (repeat' split) <;> first | rfl | omega | exact simOL_refl _ | (simp_all; done) | (simp_all; rfl) | (simp_all; omega) | (simp_all; exact simOL_refl _) | (simp [putL, NoBorL, NoBor]; done))))
        · first | simp only [hb, cond_false] at hR | (simp only [*] at hb; simp only [hb, cond_false] at hR)
          refine AWP.skip ?_
          refine AWP.seq ?_
          refine AWP.regS G_ok laws_FnExactFreeOn_DD hc (by kernel_rfl) (fun K hK => ?_); simp only [ea, gv, sv, D_laws_szStore, D_laws_toStore, D_laws_eqStore, D_spec_FreeOn, D_impl_FreeOn, Dz_laws_toStore, reduceCtorEq, reduceIte, Nat.reduceBEq, Nat.reduceAdd, Nat.reduceEqDiff, Nat.reduceLT, Nat.reduceLeDiff, Nat.reduceMul, Nat.reduceSub, BEq.rfl, beq_self_eq_true, Int.reduceToNat]
          first | refine hK _ ?_ | refine ⟨by (first | trivial | omega | (simp only [ob, ln, bdv, laws_toStore_id, sv] at *; omega) | ((try clear hK K); (repeat' first | apply And.intro | intro _) <;> first | trivial | omega | assumption | solve_by_elim | (apply bd_getD <;> first | assumption | decide) | (apply bd_subL <;> first | assumption | decide) | (simp only [ob, ln, bdv, laws_toStore_id, sv] at *; first | done | omega | assumption | (simp_all; done) | grind))), hK _ ?_⟩
          clear hK K
          refine AWP.ret ?_
          subst hR
          (simp only [en, si, ea, gv, sv, hk, reduceCtorEq, reduceIte, Nat.reduceBEq, Nat.reduceAdd, Nat.reduceEqDiff, Nat.reduceLT, Nat.reduceLeDiff, Nat.reduceMul, Nat.reduceSub, BEq.rfl, beq_self_eq_true, Int.reduceToNat]; first | done | trivial | (and_intros <;> first | rfl | trivial | omega | (rw [IntKind.wrap_i64]; omega) | (simp only [ln]; done) | (simp only [ob, ln, bdv, laws_toStore_id, sv] at *; first | done | omega | grind) | (left; intro j hj; simp only [pw, Bool.cond_eq_ite, Bool.and_eq_true, decide_eq_true_eq]; (repeat' split) <;> simp [putL, NoBorL, NoBor]) | (intro j hj; simp only [pw, Bool.cond_eq_ite]; (repeat' split) <;> first | rfl | (simp [pureL, pureV, borrowL, borrow, NoBorL, NoBor]; done) | (left; simp [pureL, pureV, borrowL, borrow, NoBorL, NoBor]; done) | omega) | (intro j hj; simp only [pw, Bool.cond_eq_ite, Bool.and_eq_true, decide_eq_true_eq]; (try rw [subL_getD _ _ _ _ (by first | assumption | omega)]); (try rw [clearL_getD _ _ _ _ (by first | omega | (simp only [ob, ln, bdv] at *; omega))]); (repeat' split) <;> first | rfl | omega | exact simOL_refl _ | (simp_all; done) | (simp_all; rfl) | (simp_all; omega) | (simp_all; exact simOL_refl _) | (simp [putL, NoBorL, NoBor]; done))))

def D_laws_FnExactFreeOn : DF
  | [x0, x1, x2] => some (.bool (laws_FnExactFreeOn (rdG dStore x0) (rdS x1) (rdI x2)), false, [wG eStore dStore x0, wS x1, wI .i64 x2])
  | _ => none
theorem D_laws_FnExactFreeOn_ok : OkD Try.prog 7 D_laws_FnExactFreeOn := by
  intro xs r z ob h ho
  unfold D_laws_FnExactFreeOn at h
  split at h
  · simp only [Option.some.injEq, Prod.mk.injEq] at h
    obtain ⟨rfl, rfl, rfl⟩ := h
    obtain ⟨h0, h1, h2, _⟩ := ho
    exact Den.sim (laws_FnExactFreeOn_den _ _ _ ) (simOL_cons (wG_sim h0).1 <| simOL_cons (wS_sim h1).1 <| simOL_cons (wI_sim h2).1 <| trivial) (noIdL_cons (wG_sim h0).2 <| noIdL_cons (wS_sim h1).2 <| noIdL_cons (wI_sim h2).2 <| rfl) rfl
  · cases h
end Go.Ab

namespace Go.Ab
open Go Go.Proofs
theorem law_FreeOn (a : Store) (k : List UInt8) (d : Int) (ha : bwStore a) (hk : k.length < 9223372036854775808) : laws_FnExactFreeOn a k d = true := by
  have h : impl_FreeOn a k d = spec_FreeOn a k d := by
    unfold impl_FreeOn spec_FreeOn
    obtain ⟨h1, h2⟩ := stockCode_eq a k d ha
    simp only [h1]
    by_cases hz : spec_l29Ask a k d = 0
    · obtain ⟨L, h3, h4⟩ := fromDay_eq a k d (h2 hz).2
      rw [h3, min_eq, h4]
      all_goals rfl
    · have : (spec_l29Ask a k d != 0) = true := by simpa using hz
      rw [this]; rfl
  unfold laws_FnExactFreeOn
  simp only [laws_toStore_id, laws_eqStore_dec, h]
  simp
end Go.Ab

namespace Go.Ab
open Go Go.Proofs Go.Deep Go.ChangeShapes Go.WideShapes Go.ChangeAt Go.RowKit
set_option maxRecDepth 100000
theorem rdT72 : Rd Try.prog 72 eEntry := by
  intro H enc W base sp hd fuel cs x h
  obtain ⟨hl, hf⟩ := rd_fields Try.underlying72 h
  have e0 : Try.prog.cellsOf 72 = 3 := by kernel_rfl
  rw [e0] at hl
  obtain ⟨n0, y0, g0⟩ := hf 0 _ rfl
  have c0 : Try.prog.cellsOf 2 = 1 := by kernel_rfl
  obtain ⟨v0, r0, o0⟩ := (rd_int (k := .i64) Try.underlying2) g0
  replace r0 : RepL W (fun _ => False) ([.int .i64 v0]) noMap ((cs.drop 0).take (Try.prog.cellsOf 2)) [] := r0
  replace o0 : ∀ u ∈ (cs.drop 0).take (Try.prog.cellsOf 2), u.oneCell' = true := o0
  rw [c0] at r0 o0
  obtain ⟨n1, y1, g1⟩ := hf 1 _ rfl
  have c1 : Try.prog.cellsOf 9 = 1 := by kernel_rfl
  obtain ⟨v1, r1, o1⟩ := (rd_str Try.underlying9) g1
  replace r1 : RepL W (fun _ => False) ([.str v1]) noMap ((cs.drop 1).take (Try.prog.cellsOf 9)) [] := r1
  replace o1 : ∀ u ∈ (cs.drop 1).take (Try.prog.cellsOf 9), u.oneCell' = true := o1
  rw [c1] at r1 o1
  obtain ⟨n2, y2, g2⟩ := hf 2 _ rfl
  have c2 : Try.prog.cellsOf 2 = 1 := by kernel_rfl
  obtain ⟨v2, r2, o2⟩ := (rd_int (k := .i64) Try.underlying2) g2
  replace r2 : RepL W (fun _ => False) ([.int .i64 v2]) noMap ((cs.drop 2).take (Try.prog.cellsOf 2)) [] := r2
  replace o2 : ∀ u ∈ (cs.drop 2).take (Try.prog.cellsOf 2), u.oneCell' = true := o2
  rw [c2] at r2 o2
  refine ⟨⟨v0, v1, v2⟩, ?_, ?_⟩
  · exact split_rep (o := 0) (k := 1) r0 (split_rep (o := 1) (k := 1) r1 (split_rep (o := 2) (k := 1) r2 (end_rep (o := 3) (by omega))))
  · exact split_one (o := 0) (k := 1) o0 (split_one (o := 1) (k := 1) o1 (split_one (o := 2) (k := 1) o2 (end_one (o := 3) (by omega))))
theorem rdT23 : Rd Try.prog 23 (fun l : List Entry => [encL 3 eEntry l]) := rd_slice Try.underlying23 (by kernel_rfl) (by decide) rdT72
theorem rdT67 : Rd Try.prog 67 eSpare := by
  intro H enc W base sp hd fuel cs x h
  obtain ⟨hl, hf⟩ := rd_fields Try.underlying67 h
  have e0 : Try.prog.cellsOf 67 = 3 := by kernel_rfl
  rw [e0] at hl
  obtain ⟨n0, y0, g0⟩ := hf 0 _ rfl
  have c0 : Try.prog.cellsOf 9 = 1 := by kernel_rfl
  obtain ⟨v0, r0, o0⟩ := (rd_str Try.underlying9) g0
  replace r0 : RepL W (fun _ => False) ([.str v0]) noMap ((cs.drop 0).take (Try.prog.cellsOf 9)) [] := r0
  replace o0 : ∀ u ∈ (cs.drop 0).take (Try.prog.cellsOf 9), u.oneCell' = true := o0
  rw [c0] at r0 o0
  obtain ⟨n1, y1, g1⟩ := hf 1 _ rfl
  have c1 : Try.prog.cellsOf 2 = 1 := by kernel_rfl
  obtain ⟨v1, r1, o1⟩ := (rd_int (k := .i64) Try.underlying2) g1
  replace r1 : RepL W (fun _ => False) ([.int .i64 v1]) noMap ((cs.drop 1).take (Try.prog.cellsOf 2)) [] := r1
  replace o1 : ∀ u ∈ (cs.drop 1).take (Try.prog.cellsOf 2), u.oneCell' = true := o1
  rw [c1] at r1 o1
  obtain ⟨n2, y2, g2⟩ := hf 2 _ rfl
  have c2 : Try.prog.cellsOf 2 = 1 := by kernel_rfl
  obtain ⟨v2, r2, o2⟩ := (rd_int (k := .i64) Try.underlying2) g2
  replace r2 : RepL W (fun _ => False) ([.int .i64 v2]) noMap ((cs.drop 2).take (Try.prog.cellsOf 2)) [] := r2
  replace o2 : ∀ u ∈ (cs.drop 2).take (Try.prog.cellsOf 2), u.oneCell' = true := o2
  rw [c2] at r2 o2
  refine ⟨⟨v0, v1, v2⟩, ?_, ?_⟩
  · exact split_rep (o := 0) (k := 1) r0 (split_rep (o := 1) (k := 1) r1 (split_rep (o := 2) (k := 1) r2 (end_rep (o := 3) (by omega))))
  · exact split_one (o := 0) (k := 1) o0 (split_one (o := 1) (k := 1) o1 (split_one (o := 2) (k := 1) o2 (end_one (o := 3) (by omega))))
theorem rdT22 : Rd Try.prog 22 (fun l : List Spare => [encL 3 eSpare l]) := rd_slice Try.underlying22 (by kernel_rfl) (by decide) rdT67
theorem rdT25 : Rd Try.prog 25 eStore := by
  intro H enc W base sp hd fuel cs x h
  obtain ⟨hl, hf⟩ := rd_fields Try.underlying25 h
  have e0 : Try.prog.cellsOf 25 = 2 := by kernel_rfl
  rw [e0] at hl
  obtain ⟨n0, y0, g0⟩ := hf 0 _ rfl
  have c0 : Try.prog.cellsOf 22 = 1 := by kernel_rfl
  obtain ⟨v0, r0, o0⟩ := rdT22 g0
  replace r0 : RepL W (fun _ => False) ([encL 3 eSpare v0]) noMap ((cs.drop 0).take (Try.prog.cellsOf 22)) [] := r0
  replace o0 : ∀ u ∈ (cs.drop 0).take (Try.prog.cellsOf 22), u.oneCell' = true := o0
  rw [c0] at r0 o0
  obtain ⟨n1, y1, g1⟩ := hf 1 _ rfl
  have c1 : Try.prog.cellsOf 23 = 1 := by kernel_rfl
  obtain ⟨v1, r1, o1⟩ := rdT23 g1
  replace r1 : RepL W (fun _ => False) ([encL 3 eEntry v1]) noMap ((cs.drop 1).take (Try.prog.cellsOf 23)) [] := r1
  replace o1 : ∀ u ∈ (cs.drop 1).take (Try.prog.cellsOf 23), u.oneCell' = true := o1
  rw [c1] at r1 o1
  refine ⟨⟨v0, v1⟩, ?_, ?_⟩
  · exact split_rep (o := 0) (k := 1) r0 (split_rep (o := 1) (k := 1) r1 (end_rep (o := 2) (by omega)))
  · exact split_one (o := 0) (k := 1) o0 (split_one (o := 1) (k := 1) o1 (end_one (o := 2) (by omega)))
theorem rdT100 : Rd Try.prog 100 eItem := by
  intro H enc W base sp hd fuel cs x h
  obtain ⟨hl, hf⟩ := rd_fields Try.underlying100 h
  have e0 : Try.prog.cellsOf 100 = 2 := by kernel_rfl
  rw [e0] at hl
  obtain ⟨n0, y0, g0⟩ := hf 0 _ rfl
  have c0 : Try.prog.cellsOf 9 = 1 := by kernel_rfl
  obtain ⟨v0, r0, o0⟩ := (rd_str Try.underlying9) g0
  replace r0 : RepL W (fun _ => False) ([.str v0]) noMap ((cs.drop 0).take (Try.prog.cellsOf 9)) [] := r0
  replace o0 : ∀ u ∈ (cs.drop 0).take (Try.prog.cellsOf 9), u.oneCell' = true := o0
  rw [c0] at r0 o0
  obtain ⟨n1, y1, g1⟩ := hf 1 _ rfl
  have c1 : Try.prog.cellsOf 9 = 1 := by kernel_rfl
  obtain ⟨v1, r1, o1⟩ := (rd_str Try.underlying9) g1
  replace r1 : RepL W (fun _ => False) ([.str v1]) noMap ((cs.drop 1).take (Try.prog.cellsOf 9)) [] := r1
  replace o1 : ∀ u ∈ (cs.drop 1).take (Try.prog.cellsOf 9), u.oneCell' = true := o1
  rw [c1] at r1 o1
  refine ⟨⟨v0, v1⟩, ?_, ?_⟩
  · exact split_rep (o := 0) (k := 1) r0 (split_rep (o := 1) (k := 1) r1 (end_rep (o := 2) (by omega)))
  · exact split_one (o := 0) (k := 1) o0 (split_one (o := 1) (k := 1) o1 (end_one (o := 2) (by omega)))
theorem rdT35 : Rd Try.prog 35 (fun l : List Item => [encL 2 eItem l]) := rd_slice Try.underlying35 (by kernel_rfl) (by decide) rdT100
theorem rdT58 : Rd Try.prog 58 (fun l : List Int => [encL 1 eIu8 l]) := rd_slice Try.underlying58 (by kernel_rfl) (by decide) (rd_int (k := .u8) Try.underlying5)
end Go.Ab
