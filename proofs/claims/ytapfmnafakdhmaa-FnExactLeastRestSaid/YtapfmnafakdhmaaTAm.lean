/- A part of a proof: walks of functions and lemmas of our own. No conditions. -/
import Derived.Test.YtapfmnafakdhmaaTAi
import Derived.Test.YtapfmnafakdhmaaTAl
import Derived.Test.YtapfmnafakdhmaaTAh
import Derived.Test.YtapfmnafakdhmaaTAj
import Derived.Test.YtapfmnafakdhmaaTAk
import Derived.Deep.Slices
import Derived.Deep.Strs
import Derived.Lib.SmallJoins
import Derived.Test.YtapfmnafakdhmaaRows
set_option linter.unusedVariables false
set_option linter.unusedSimpArgs false
namespace Go.Ab
open Go Go.Proofs
theorem slices_IndexFunc_Duty__impl_dutiesOf_1_DD : DOk Try.prog (DD [(129, dP D_impl_dutiesOf_1)]) := DD_cons D_impl_dutiesOf_1_ok.e <| DD_nil _
def slices_IndexFunc_Duty__impl_dutiesOf_1_b1 (a0 : (List Duty)) (a1 : (List UInt8)) (i1 : Nat) (s1 : Unit) : Except (Int) (Unit) :=
  (bif (impl_dutiesOf_1 (a0.getD i1 default) a1) then .error (i1 : Int) else .ok ())

def slices_IndexFunc_Duty__impl_dutiesOf_1 (a0 : (List Duty)) (a1 : (List UInt8)) : Int :=
  (match loopR (slices_IndexFunc_Duty__impl_dutiesOf_1_b1 a0 a1) (a0.length - 0) 0 () with | .error e => e | .ok s1 => (-1))

theorem slices_IndexFunc_Duty__impl_dutiesOf_1_den (a0 : (List Duty)) (a1 : (List UInt8)) (hb0 : a0.length < 1099511627776) (hb1 : ∀ v ∈ a0, bdDuty v) (hb2 : a1.length < 1099511627776) : Den Try.prog 139 [encL 3 eDuty a0, .fn 129 0 [.ep (eS a1)]] (.int .i64 (slices_IndexFunc_Duty__impl_dutiesOf_1 a0 a1)) := by
  generalize hR : slices_IndexFunc_Duty__impl_dutiesOf_1 a0 a1 = r
  unfold slices_IndexFunc_Duty__impl_dutiesOf_1 at hR
  refine den_intro G_ok Try.func139 (by kernel_rfl) rfl Try.ntmps139 (by rw [Try.results139]) (by simp) rfl ?_
  intro c hc hk
  simp only [pars, Nat.zero_add]
  refine AWP.seq ?_
  refine AWP.regS G_ok slices_IndexFunc_Duty__impl_dutiesOf_1_DD hc (by kernel_rfl) (fun K hK => ?_); simp only [ea, gv, sv, D_impl_dutiesOf_1, reduceCtorEq, reduceIte, Nat.reduceBEq, Nat.reduceAdd, Nat.reduceEqDiff, Nat.reduceLT, Nat.reduceLeDiff, Nat.reduceMul, Nat.reduceSub, BEq.rfl, beq_self_eq_true, Int.reduceToNat]
  first | refine hK _ ?_ | refine ⟨by (first | trivial | omega | (simp only [ob, ln, bdv, sv] at *; omega) | ((try clear hK K); (repeat' first | apply And.intro | intro _) <;> first | trivial | omega | assumption | solve_by_elim | (apply bd_getD <;> first | assumption | decide) | (apply bd_subL <;> first | assumption | decide) | (simp only [ob, ln, bdv, sv] at *; first | omega | assumption | (simp_all; done) | grind))), hK _ ?_⟩
  clear hK K
  refine AWP.seq ?_
  refine AWP.seq ?_
  refine AWP.regS G_ok slices_IndexFunc_Duty__impl_dutiesOf_1_DD hc (by kernel_rfl) (fun K hK => ?_); simp only [ea, gv, sv, D_impl_dutiesOf_1, reduceCtorEq, reduceIte, Nat.reduceBEq, Nat.reduceAdd, Nat.reduceEqDiff, Nat.reduceLT, Nat.reduceLeDiff, Nat.reduceMul, Nat.reduceSub, BEq.rfl, beq_self_eq_true, Int.reduceToNat]
  first | refine hK _ ?_ | refine ⟨by (first | trivial | omega | (simp only [ob, ln, bdv, sv] at *; omega) | ((try clear hK K); (repeat' first | apply And.intro | intro _) <;> first | trivial | omega | assumption | solve_by_elim | (apply bd_getD <;> first | assumption | decide) | (apply bd_subL <;> first | assumption | decide) | (simp only [ob, ln, bdv, sv] at *; first | omega | assumption | (simp_all; done) | grind))), hK _ ?_⟩
  clear hK K
  refine AWP.block ?_
  generalize hz1 : loopR (slices_IndexFunc_Duty__impl_dutiesOf_1_b1 a0 a1) (a0.length - 0) 0 () = z1 at hR
  refine AWP.range (slices_IndexFunc_Duty__impl_dutiesOf_1_b1 a0 a1) (fun i1 s1 => ⟨[(0, encL 3 eDuty a0), (1, .fn 129 0 [.ep (eS a1)]), (7, .int .i64 (a0.length : Int)), (8, .int .i64 (i1 : Int))], []⟩) (fun i1 s1 => True) (a0.length) 0 () [] hz1 (by (first | trivial | omega | (simp only [ob, ln, bdv, sv] at *; omega) | ((try clear hK K); (repeat' first | apply And.intro | intro _) <;> first | trivial | omega | assumption | solve_by_elim | (apply bd_getD <;> first | assumption | decide) | (apply bd_subL <;> first | assumption | decide) | (simp only [ob, ln, bdv, sv] at *; first | omega | assumption | (simp_all; done) | grind)))) (by (first | trivial | (and_intros <;> simp only [ln] <;> omega) | (and_intros <;> simp only [ob, ln] at * <;> omega) | (and_intros <;> first | trivial | omega | assumption | (apply bd_set <;> first | assumption | (apply bd_getD <;> first | assumption | decide)) | (apply bd_app <;> first | assumption | (apply bd_getD <;> first | assumption | decide)) | (simp only [ob, ln, bdv, sv] at *; omega) | (simp; done)))) (by (simp only [si, ea, gv, sv, hk, reduceCtorEq, reduceIte, Nat.reduceBEq, Nat.reduceAdd, Nat.reduceEqDiff, Nat.reduceLT, Nat.reduceLeDiff, Nat.reduceMul, Nat.reduceSub, BEq.rfl, beq_self_eq_true, Int.reduceToNat]; first | done | trivial | (and_intros <;> first | rfl | trivial | omega | (rw [IntKind.wrap_i64]; omega) | (simp only [ln]; done) | (simp only [ob, ln, bdv, sv] at *; first | omega | grind) | (left; intro j hj; simp only [pw, Bool.cond_eq_ite, Bool.and_eq_true, decide_eq_true_eq]; (repeat' split) <;> simp [putL, NoBorL, NoBor]) | (intro j hj; simp only [pw, Bool.cond_eq_ite, Bool.and_eq_true, decide_eq_true_eq]; (try rw [subL_getD _ _ _ _ (by first | assumption | omega)]); (try rw [clearL_getD _ _ _ _ (by first | omega | (simp only [ob, ln, bdv] at *; omega))]); (repeat' split) <;> first | rfl | omega | exact simOL_refl _ | (simp_all; done) | (simp_all; rfl) | (simp_all; omega) | (simp_all; exact simOL_refl _) | (simp [putL, NoBorL, NoBor]; done))))) ?_
  clear hz1
  intro i1 s1 hi1 hW1 hz1
  refine AWP.seq ?_
  refine AWP.regS G_ok slices_IndexFunc_Duty__impl_dutiesOf_1_DD hc (by kernel_rfl) (fun K hK => ?_); simp only [ea, gv, sv, D_impl_dutiesOf_1, reduceCtorEq, reduceIte, Nat.reduceBEq, Nat.reduceAdd, Nat.reduceEqDiff, Nat.reduceLT, Nat.reduceLeDiff, Nat.reduceMul, Nat.reduceSub, BEq.rfl, beq_self_eq_true, Int.reduceToNat]
  first | refine hK _ ?_ | refine ⟨by (first | trivial | omega | (simp only [ob, ln, bdv, sv] at *; omega) | ((try clear hK K); (repeat' first | apply And.intro | intro _) <;> first | trivial | omega | assumption | solve_by_elim | (apply bd_getD <;> first | assumption | decide) | (apply bd_subL <;> first | assumption | decide) | (simp only [ob, ln, bdv, sv] at *; first | omega | assumption | (simp_all; done) | grind))), hK _ ?_⟩
  clear hK K
  refine AWP.seq ?_
  refine AWP.cond rfl (fun hb => ?_) (fun hb => ?_)
  · have hlt1 : i1 < a0.length := by (first | trivial | omega | (simp only [ob, ln, bdv, sv] at *; omega) | ((try clear hK K); (repeat' first | apply And.intro | intro _) <;> first | trivial | omega | assumption | solve_by_elim | (apply bd_getD <;> first | assumption | decide) | (apply bd_subL <;> first | assumption | decide) | (simp only [ob, ln, bdv, sv] at *; first | omega | assumption | (simp_all; done) | grind)))
    rw [loopR_lt hlt1] at hz1; simp only [slices_IndexFunc_Duty__impl_dutiesOf_1_b1] at hz1
    refine AWP.skip ?_
    refine AWP.seq ?_
    refine AWP.block ?_
    refine AWP.seq ?_
    refine AWP.regS G_ok slices_IndexFunc_Duty__impl_dutiesOf_1_DD hc (by kernel_rfl) (fun K hK => ?_); simp only [ea, gv, sv, D_impl_dutiesOf_1, reduceCtorEq, reduceIte, Nat.reduceBEq, Nat.reduceAdd, Nat.reduceEqDiff, Nat.reduceLT, Nat.reduceLeDiff, Nat.reduceMul, Nat.reduceSub, BEq.rfl, beq_self_eq_true, Int.reduceToNat]
    first | refine hK _ ?_ | refine ⟨by (first | trivial | omega | (simp only [ob, ln, bdv, sv] at *; omega) | ((try clear hK K); (repeat' first | apply And.intro | intro _) <;> first | trivial | omega | assumption | solve_by_elim | (apply bd_getD <;> first | assumption | decide) | (apply bd_subL <;> first | assumption | decide) | (simp only [ob, ln, bdv, sv] at *; first | omega | assumption | (simp_all; done) | grind))), hK _ ?_⟩
    clear hK K
    refine AWP.seq ?_
    refine AWP.regS G_ok slices_IndexFunc_Duty__impl_dutiesOf_1_DD hc (by kernel_rfl) (fun K hK => ?_); simp only [ea, gv, sv, D_impl_dutiesOf_1, reduceCtorEq, reduceIte, Nat.reduceBEq, Nat.reduceAdd, Nat.reduceEqDiff, Nat.reduceLT, Nat.reduceLeDiff, Nat.reduceMul, Nat.reduceSub, BEq.rfl, beq_self_eq_true, Int.reduceToNat]
    first | refine hK _ ?_ | refine ⟨by (first | trivial | omega | (simp only [ob, ln, bdv, sv] at *; omega) | ((try clear hK K); (repeat' first | apply And.intro | intro _) <;> first | trivial | omega | assumption | solve_by_elim | (apply bd_getD <;> first | assumption | decide) | (apply bd_subL <;> first | assumption | decide) | (simp only [ob, ln, bdv, sv] at *; first | omega | assumption | (simp_all; done) | grind))), hK _ ?_⟩
    clear hK K
    refine AWP.cond rfl (fun hb => ?_) (fun hb => ?_)
    · first | simp only [hb, cond_true] at hz1 | (simp only [*] at hb; simp only [hb, cond_true] at hz1)
      refine AWP.seq ?_
      refine AWP.regS G_ok slices_IndexFunc_Duty__impl_dutiesOf_1_DD hc (by kernel_rfl) (fun K hK => ?_); simp only [ea, gv, sv, D_impl_dutiesOf_1, reduceCtorEq, reduceIte, Nat.reduceBEq, Nat.reduceAdd, Nat.reduceEqDiff, Nat.reduceLT, Nat.reduceLeDiff, Nat.reduceMul, Nat.reduceSub, BEq.rfl, beq_self_eq_true, Int.reduceToNat]
      first | refine hK _ ?_ | refine ⟨by (first | trivial | omega | (simp only [ob, ln, bdv, sv] at *; omega) | ((try clear hK K); (repeat' first | apply And.intro | intro _) <;> first | trivial | omega | assumption | solve_by_elim | (apply bd_getD <;> first | assumption | decide) | (apply bd_subL <;> first | assumption | decide) | (simp only [ob, ln, bdv, sv] at *; first | omega | assumption | (simp_all; done) | grind))), hK _ ?_⟩
      clear hK K
      refine AWP.ret ?_
      subst hz1
      dsimp only at hR
      subst hR
      (simp only [en, si, ea, gv, sv, hk, reduceCtorEq, reduceIte, Nat.reduceBEq, Nat.reduceAdd, Nat.reduceEqDiff, Nat.reduceLT, Nat.reduceLeDiff, Nat.reduceMul, Nat.reduceSub, BEq.rfl, beq_self_eq_true, Int.reduceToNat]; first | done | trivial | (and_intros <;> first | rfl | trivial | omega | (rw [IntKind.wrap_i64]; omega) | (simp only [ln]; done) | (simp only [ob, ln, bdv, sv] at *; first | omega | grind) | (left; intro j hj; simp only [pw, Bool.cond_eq_ite, Bool.and_eq_true, decide_eq_true_eq]; (repeat' split) <;> simp [putL, NoBorL, NoBor]) | (intro j hj; simp only [pw, Bool.cond_eq_ite, Bool.and_eq_true, decide_eq_true_eq]; (try rw [subL_getD _ _ _ _ (by first | assumption | omega)]); (try rw [clearL_getD _ _ _ _ (by first | omega | (simp only [ob, ln, bdv] at *; omega))]); (repeat' split) <;> first | rfl | omega | exact simOL_refl _ | (simp_all; done) | (simp_all; rfl) | (simp_all; omega) | (simp_all; exact simOL_refl _) | (simp [putL, NoBorL, NoBor]; done))))
    · first | simp only [hb, cond_false] at hz1 | (simp only [*] at hb; simp only [hb, cond_false] at hz1)
      refine AWP.skip ?_
      refine AWP.regS G_ok slices_IndexFunc_Duty__impl_dutiesOf_1_DD hc (by kernel_rfl) (fun K hK => ?_); simp only [ea, gv, sv, D_impl_dutiesOf_1, reduceCtorEq, reduceIte, Nat.reduceBEq, Nat.reduceAdd, Nat.reduceEqDiff, Nat.reduceLT, Nat.reduceLeDiff, Nat.reduceMul, Nat.reduceSub, BEq.rfl, beq_self_eq_true, Int.reduceToNat]
      first | refine hK _ ?_ | refine ⟨by (first | trivial | omega | (simp only [ob, ln, bdv, sv] at *; omega) | ((try clear hK K); (repeat' first | apply And.intro | intro _) <;> first | trivial | omega | assumption | solve_by_elim | (apply bd_getD <;> first | assumption | decide) | (apply bd_subL <;> first | assumption | decide) | (simp only [ob, ln, bdv, sv] at *; first | omega | assumption | (simp_all; done) | grind))), hK _ ?_⟩
      clear hK K
      exact ⟨_, [], hlt1, by (first | trivial | (and_intros <;> simp only [ln] <;> omega) | (and_intros <;> simp only [ob, ln] at * <;> omega) | (and_intros <;> first | trivial | omega | assumption | (apply bd_set <;> first | assumption | (apply bd_getD <;> first | assumption | decide)) | (apply bd_app <;> first | assumption | (apply bd_getD <;> first | assumption | decide)) | (simp only [ob, ln, bdv, sv] at *; omega) | (simp; done))), hz1, by (simp only [si, ea, gv, sv, hk, reduceCtorEq, reduceIte, Nat.reduceBEq, Nat.reduceAdd, Nat.reduceEqDiff, Nat.reduceLT, Nat.reduceLeDiff, Nat.reduceMul, Nat.reduceSub, BEq.rfl, beq_self_eq_true, Int.reduceToNat]; first | done | trivial | (and_intros <;> first | rfl | trivial | omega | (rw [IntKind.wrap_i64]; omega) | (simp only [ln]; done) | (simp only [ob, ln, bdv, sv] at *; first | omega | grind) | (left; intro j hj; simp only [pw, Bool.cond_eq_ite, Bool.and_eq_true, decide_eq_true_eq]; (repeat' split) <;> simp [putL, NoBorL, NoBor]) | (intro j hj; simp only [pw, Bool.cond_eq_ite, Bool.and_eq_true, decide_eq_true_eq]; (try rw [subL_getD _ _ _ _ (by first | assumption | omega)]); (try rw [clearL_getD _ _ _ _ (by first | omega | (simp only [ob, ln, bdv] at *; omega))]); (repeat' split) <;> first | rfl | omega | exact simOL_refl _ | (simp_all; done) | (simp_all; rfl) | (simp_all; omega) | (simp_all; exact simOL_refl _) | (simp [putL, NoBorL, NoBor]; done))))⟩
  · obtain rfl : i1 = a0.length := by (first | trivial | omega | (simp only [ob, ln, bdv, sv] at *; omega) | ((try clear hK K); (repeat' first | apply And.intro | intro _) <;> first | trivial | omega | assumption | solve_by_elim | (apply bd_getD <;> first | assumption | decide) | (apply bd_subL <;> first | assumption | decide) | (simp only [ob, ln, bdv, sv] at *; first | omega | assumption | (simp_all; done) | grind)))
    rw [loopR_ge (Nat.le_refl _)] at hz1; subst hz1; dsimp only at hR
    refine AWP.exit ?_; refine exitTo_here ?_
    refine AWP.seq ?_
    refine AWP.regS G_ok slices_IndexFunc_Duty__impl_dutiesOf_1_DD hc (by kernel_rfl) (fun K hK => ?_); simp only [ea, gv, sv, D_impl_dutiesOf_1, reduceCtorEq, reduceIte, Nat.reduceBEq, Nat.reduceAdd, Nat.reduceEqDiff, Nat.reduceLT, Nat.reduceLeDiff, Nat.reduceMul, Nat.reduceSub, BEq.rfl, beq_self_eq_true, Int.reduceToNat]
    first | refine hK _ ?_ | refine ⟨by (first | trivial | omega | (simp only [ob, ln, bdv, sv] at *; omega) | ((try clear hK K); (repeat' first | apply And.intro | intro _) <;> first | trivial | omega | assumption | solve_by_elim | (apply bd_getD <;> first | assumption | decide) | (apply bd_subL <;> first | assumption | decide) | (simp only [ob, ln, bdv, sv] at *; first | omega | assumption | (simp_all; done) | grind))), hK _ ?_⟩
    clear hK K
    refine AWP.ret ?_
    subst hR
    (simp only [en, si, ea, gv, sv, hk, reduceCtorEq, reduceIte, Nat.reduceBEq, Nat.reduceAdd, Nat.reduceEqDiff, Nat.reduceLT, Nat.reduceLeDiff, Nat.reduceMul, Nat.reduceSub, BEq.rfl, beq_self_eq_true, Int.reduceToNat]; first | done | trivial | (and_intros <;> first | rfl | trivial | omega | (rw [IntKind.wrap_i64]; omega) | (simp only [ln]; done) | (simp only [ob, ln, bdv, sv] at *; first | omega | grind) | (left; intro j hj; simp only [pw, Bool.cond_eq_ite, Bool.and_eq_true, decide_eq_true_eq]; (repeat' split) <;> simp [putL, NoBorL, NoBor]) | (intro j hj; simp only [pw, Bool.cond_eq_ite, Bool.and_eq_true, decide_eq_true_eq]; (try rw [subL_getD _ _ _ _ (by first | assumption | omega)]); (try rw [clearL_getD _ _ _ _ (by first | omega | (simp only [ob, ln, bdv] at *; omega))]); (repeat' split) <;> first | rfl | omega | exact simOL_refl _ | (simp_all; done) | (simp_all; rfl) | (simp_all; omega) | (simp_all; exact simOL_refl _) | (simp [putL, NoBorL, NoBor]; done))))

def D_slices_IndexFunc_Duty__impl_dutiesOf_1 : DF
  | [x0, (.fn f129_2 kf129_2 [y1])] => some (.int .i64 (slices_IndexFunc_Duty__impl_dutiesOf_1 (rdL dDuty x0) (rdP dS y1)), false, [wL 3 eDuty dDuty x0, y1 = .ep (eS (rdP dS y1)), f129_2 = 129, kf129_2 = 0, (rdL dDuty x0).length < 1099511627776, ∀ v ∈ (rdL dDuty x0), bdDuty v, (rdP dS y1).length < 1099511627776])
  | _ => none
theorem D_slices_IndexFunc_Duty__impl_dutiesOf_1_ok : OkD Try.prog 139 D_slices_IndexFunc_Duty__impl_dutiesOf_1 := by
  intro xs r z ob h ho
  unfold D_slices_IndexFunc_Duty__impl_dutiesOf_1 at h
  split at h
  · simp only [Option.some.injEq, Prod.mk.injEq] at h
    obtain ⟨rfl, rfl, rfl⟩ := h
    obtain ⟨h0, qy1, qf129_2, qkf129_2, hb0, hb1, hb2, _⟩ := ho
    exact Den.sim (slices_IndexFunc_Duty__impl_dutiesOf_1_den _ _ hb0 hb1 hb2) (simOL_cons (wL_sim h0).1 <| simOL_cons (by subst qf129_2 qkf129_2; rw [← qy1]; exact simO_refl _) <| trivial) (noIdL_cons (wL_sim h0).2 <| noIdL_cons (by rw [qy1]; rfl) <| rfl) rfl
  · cases h
end Go.Ab

namespace Go.Ab
open Go Go.Proofs
theorem slices_IndexFunc_Duty__impl_dutiesOf_1_first (a0 : List Duty) (a2 : List UInt8) : (∃ j, j < a0.length ∧ (impl_dutiesOf_1 (a0.getD j default) a2) = true ∧ (∀ q, q < j → (impl_dutiesOf_1 (a0.getD q default) a2) = false) ∧ slices_IndexFunc_Duty__impl_dutiesOf_1 a0 a2 = (j : Int)) ∨ ((∀ q, q < a0.length → (impl_dutiesOf_1 (a0.getD q default) a2) = false) ∧ slices_IndexFunc_Duty__impl_dutiesOf_1 a0 a2 = -1) := by
  unfold slices_IndexFunc_Duty__impl_dutiesOf_1
  rcases loopR_first (b := slices_IndexFunc_Duty__impl_dutiesOf_1_b1 a0 a2) (fun j => impl_dutiesOf_1 (a0.getD j default) a2) (fun j => (j : Int)) (k := a0.length - 0) (i := 0) (s := ()) (fun j u _ _ => rfl) with ⟨j, _, h2, h3, h4, h5⟩ | ⟨h1, h2⟩
  · left
    rw [h5]
    exact ⟨j, by omega, h3, fun q hq => h4 q (Nat.zero_le _) hq, rfl⟩
  · right
    rw [h2]
    exact ⟨fun q hq => h1 q (Nat.zero_le _) (by omega), rfl⟩
theorem slices_IndexFunc_Duty__impl_dutiesOf_1_lt (a0 : List Duty) (a2 : List UInt8) : -1 ≤ slices_IndexFunc_Duty__impl_dutiesOf_1 a0 a2 ∧ slices_IndexFunc_Duty__impl_dutiesOf_1 a0 a2 < a0.length := by
  rcases slices_IndexFunc_Duty__impl_dutiesOf_1_first a0 a2 with ⟨j, h1, _, _, h2⟩ | ⟨_, h2⟩ <;> omega
end Go.Ab

namespace Go.Ab
open Go Go.Proofs
theorem slices_DeleteFunc_Duty__impl_dutiesOf_1_DD : DOk Try.prog (DD [(129, dP D_impl_dutiesOf_1), (139, dP D_slices_IndexFunc_Duty__impl_dutiesOf_1)]) := DD_cons D_impl_dutiesOf_1_ok.e <| DD_cons D_slices_IndexFunc_Duty__impl_dutiesOf_1_ok.e <| DD_nil _
def slices_DeleteFunc_Duty__impl_dutiesOf_1_b1 (a0 : (List Duty)) (a1 : (List UInt8)) (i1 : Nat) (s1 : Int × List Duty) : Except ((List Duty)) (Int × List Duty) :=
  (bif (!(impl_dutiesOf_1 (s1.2.getD i1 default) a1)) then .ok (IntKind.wrap .i64 (s1.1 + 1), s1.2.set ((s1.1).toNat) (s1.2.getD i1 default)) else .ok (s1.1, s1.2))

def slices_DeleteFunc_Duty__impl_dutiesOf_1 (a0 : (List Duty)) (a1 : (List UInt8)) : (List Duty) :=
  (bif ((slices_IndexFunc_Duty__impl_dutiesOf_1 a0 a1) == (-1)) then a0 else (match loopR (slices_DeleteFunc_Duty__impl_dutiesOf_1_b1 a0 a1) (a0.length - (IntKind.wrap .i64 ((slices_IndexFunc_Duty__impl_dutiesOf_1 a0 a1) + 1)).toNat) ((IntKind.wrap .i64 ((slices_IndexFunc_Duty__impl_dutiesOf_1 a0 a1) + 1)).toNat) ((slices_IndexFunc_Duty__impl_dutiesOf_1 a0 a1), a0) with | .error e => e | .ok s1 => subL (clearL s1.2 ((s1.1).toNat) (s1.2.length - (s1.1).toNat)) 0 ((s1.1).toNat)))

theorem slices_DeleteFunc_Duty__impl_dutiesOf_1_den (a0 : (List Duty)) (a1 : (List UInt8)) (hb0 : a0.length < 1099511627776) (hb1 : ∀ v ∈ a0, bdDuty v) (hb2 : a1.length < 1099511627776) : DenM Try.prog 127 [ownL 103 3 eDuty a0, .fn 129 0 [.ep (eS a1)]] (ownL 103 3 eDuty (slices_DeleteFunc_Duty__impl_dutiesOf_1 a0 a1)) [.any, .any] := by
  generalize hR : slices_DeleteFunc_Duty__impl_dutiesOf_1 a0 a1 = r
  unfold slices_DeleteFunc_Duty__impl_dutiesOf_1 at hR
  refine den_introM (gb := [false, false]) G_ok Try.func127 (by kernel_rfl) rfl Try.ntmps127 (by rw [Try.results127]) (by simp) ?_
  intro c hc hk
  simp only [adEL, adE, adRL, adR, ownL, encL, sv, List.nil_append, List.append_nil, List.cons_append, List.length_cons, List.length_nil, pars, Nat.zero_add, Nat.reduceAdd] at hk ⊢
  have hf := slices_IndexFunc_Duty__impl_dutiesOf_1_lt a0 a1
  refine AWP.seq ?_
  refine AWP.regS G_ok slices_DeleteFunc_Duty__impl_dutiesOf_1_DD hc (by kernel_rfl) (fun K hK => ?_); simp only [ea, gv, sv, D_impl_dutiesOf_1, D_slices_IndexFunc_Duty__impl_dutiesOf_1, reduceCtorEq, reduceIte, Nat.reduceBEq, Nat.reduceAdd, Nat.reduceEqDiff, Nat.reduceLT, Nat.reduceLeDiff, Nat.reduceMul, Nat.reduceSub, BEq.rfl, beq_self_eq_true, Int.reduceToNat]
  first | refine hK _ ?_ | refine ⟨by (first | trivial | omega | (simp only [ob, ln, bdv, sv] at *; omega) | ((try clear hK K); (repeat' first | apply And.intro | intro _) <;> first | trivial | omega | assumption | solve_by_elim | (apply bd_getD <;> first | assumption | decide) | (apply bd_subL <;> first | assumption | decide) | (simp only [ob, ln, bdv, sv] at *; first | omega | assumption | (simp_all; done) | grind [slices_IndexFunc_Duty__impl_dutiesOf_1_lt]))), hK _ ?_⟩
  clear hK K
  refine AWP.seq ?_
  refine AWP.regS G_ok slices_DeleteFunc_Duty__impl_dutiesOf_1_DD hc (by kernel_rfl) (fun K hK => ?_); simp only [ea, gv, sv, D_impl_dutiesOf_1, D_slices_IndexFunc_Duty__impl_dutiesOf_1, reduceCtorEq, reduceIte, Nat.reduceBEq, Nat.reduceAdd, Nat.reduceEqDiff, Nat.reduceLT, Nat.reduceLeDiff, Nat.reduceMul, Nat.reduceSub, BEq.rfl, beq_self_eq_true, Int.reduceToNat]
  first | refine hK _ ?_ | refine ⟨by (first | trivial | omega | (simp only [ob, ln, bdv, sv] at *; omega) | ((try clear hK K); (repeat' first | apply And.intro | intro _) <;> first | trivial | omega | assumption | solve_by_elim | (apply bd_getD <;> first | assumption | decide) | (apply bd_subL <;> first | assumption | decide) | (simp only [ob, ln, bdv, sv] at *; first | omega | assumption | (simp_all; done) | grind [slices_IndexFunc_Duty__impl_dutiesOf_1_lt]))), hK _ ?_⟩
  clear hK K
  refine AWP.seq ?_
  refine AWP.seq ?_
  refine AWP.regS G_ok slices_DeleteFunc_Duty__impl_dutiesOf_1_DD hc (by kernel_rfl) (fun K hK => ?_); simp only [ea, gv, sv, D_impl_dutiesOf_1, D_slices_IndexFunc_Duty__impl_dutiesOf_1, reduceCtorEq, reduceIte, Nat.reduceBEq, Nat.reduceAdd, Nat.reduceEqDiff, Nat.reduceLT, Nat.reduceLeDiff, Nat.reduceMul, Nat.reduceSub, BEq.rfl, beq_self_eq_true, Int.reduceToNat]
  first | refine hK _ ?_ | refine ⟨by (first | trivial | omega | (simp only [ob, ln, bdv, sv] at *; omega) | ((try clear hK K); (repeat' first | apply And.intro | intro _) <;> first | trivial | omega | assumption | solve_by_elim | (apply bd_getD <;> first | assumption | decide) | (apply bd_subL <;> first | assumption | decide) | (simp only [ob, ln, bdv, sv] at *; first | omega | assumption | (simp_all; done) | grind [slices_IndexFunc_Duty__impl_dutiesOf_1_lt]))), hK _ ?_⟩
  clear hK K
  refine AWP.cond rfl (fun hb => ?_) (fun hb => ?_)
  · first | simp only [hb, cond_true] at hR | (simp only [*] at hb; simp only [hb, cond_true] at hR)
    refine AWP.seq ?_
    refine AWP.regS G_ok slices_DeleteFunc_Duty__impl_dutiesOf_1_DD hc (by kernel_rfl) (fun K hK => ?_); simp only [ea, gv, sv, D_impl_dutiesOf_1, D_slices_IndexFunc_Duty__impl_dutiesOf_1, reduceCtorEq, reduceIte, Nat.reduceBEq, Nat.reduceAdd, Nat.reduceEqDiff, Nat.reduceLT, Nat.reduceLeDiff, Nat.reduceMul, Nat.reduceSub, BEq.rfl, beq_self_eq_true, Int.reduceToNat]
    first | refine hK _ ?_ | refine ⟨by (first | trivial | omega | (simp only [ob, ln, bdv, sv] at *; omega) | ((try clear hK K); (repeat' first | apply And.intro | intro _) <;> first | trivial | omega | assumption | solve_by_elim | (apply bd_getD <;> first | assumption | decide) | (apply bd_subL <;> first | assumption | decide) | (simp only [ob, ln, bdv, sv] at *; first | omega | assumption | (simp_all; done) | grind [slices_IndexFunc_Duty__impl_dutiesOf_1_lt]))), hK _ ?_⟩
    clear hK K
    refine AWP.ret ?_
    subst hR
    (simp only [en, si, ea, gv, sv, hk, reduceCtorEq, reduceIte, Nat.reduceBEq, Nat.reduceAdd, Nat.reduceEqDiff, Nat.reduceLT, Nat.reduceLeDiff, Nat.reduceMul, Nat.reduceSub, BEq.rfl, beq_self_eq_true, Int.reduceToNat]; first | done | trivial | (and_intros <;> first | rfl | trivial | omega | (rw [IntKind.wrap_i64]; omega) | (simp only [ln]; done) | (simp only [ob, ln, bdv, sv] at *; first | omega | grind [slices_IndexFunc_Duty__impl_dutiesOf_1_lt]) | (left; intro j hj; simp only [pw, Bool.cond_eq_ite, Bool.and_eq_true, decide_eq_true_eq]; (repeat' split) <;> simp [putL, NoBorL, NoBor]) | (intro j hj; simp only [pw, Bool.cond_eq_ite, Bool.and_eq_true, decide_eq_true_eq]; (try rw [subL_getD _ _ _ _ (by first | assumption | omega)]); (try rw [clearL_getD _ _ _ _ (by first | omega | (simp only [ob, ln, bdv] at *; omega))]); (repeat' split) <;> first | rfl | omega | exact simOL_refl _ | (simp_all; done) | (simp_all; rfl) | (simp_all; omega) | (simp_all; exact simOL_refl _) | (simp [putL, NoBorL, NoBor]; done))))
  · first | simp only [hb, cond_false] at hR | (simp only [*] at hb; simp only [hb, cond_false] at hR)
    refine AWP.skip ?_
    refine AWP.seq ?_
    refine AWP.seq ?_
    refine AWP.regS G_ok slices_DeleteFunc_Duty__impl_dutiesOf_1_DD hc (by kernel_rfl) (fun K hK => ?_); simp only [ea, gv, sv, D_impl_dutiesOf_1, D_slices_IndexFunc_Duty__impl_dutiesOf_1, reduceCtorEq, reduceIte, Nat.reduceBEq, Nat.reduceAdd, Nat.reduceEqDiff, Nat.reduceLT, Nat.reduceLeDiff, Nat.reduceMul, Nat.reduceSub, BEq.rfl, beq_self_eq_true, Int.reduceToNat]
    first | refine hK _ ?_ | refine ⟨by (first | trivial | omega | (simp only [ob, ln, bdv, sv] at *; omega) | ((try clear hK K); (repeat' first | apply And.intro | intro _) <;> first | trivial | omega | assumption | solve_by_elim | (apply bd_getD <;> first | assumption | decide) | (apply bd_subL <;> first | assumption | decide) | (simp only [ob, ln, bdv, sv] at *; first | omega | assumption | (simp_all; done) | grind [slices_IndexFunc_Duty__impl_dutiesOf_1_lt]))), hK _ ?_⟩
    clear hK K
    refine AWP.block ?_
    generalize hz1 : loopR (slices_DeleteFunc_Duty__impl_dutiesOf_1_b1 a0 a1) (a0.length - (IntKind.wrap .i64 ((slices_IndexFunc_Duty__impl_dutiesOf_1 a0 a1) + 1)).toNat) ((IntKind.wrap .i64 ((slices_IndexFunc_Duty__impl_dutiesOf_1 a0 a1) + 1)).toNat) ((slices_IndexFunc_Duty__impl_dutiesOf_1 a0 a1), a0) = z1 at hR
    refine AWP.range (slices_DeleteFunc_Duty__impl_dutiesOf_1_b1 a0 a1) (fun i1 s1 => ⟨[(0, .ref 0 3 0 s1.2.length), (1, .fn 129 0 [.ep (eS a1)]), (5, .int .i64 s1.1), (6, .int .i64 (i1 : Int))], [.arr 103 3 s1.2.length (fun j => eDuty (s1.2.getD j default))]⟩) (fun i1 s1 => ((IntKind.wrap .i64 ((slices_IndexFunc_Duty__impl_dutiesOf_1 a0 a1) + 1)).toNat) ≤ i1 ∧ s1.2.length = a0.length ∧ 0 ≤ s1.1 ∧ s1.1 < i1 ∧ ∀ v ∈ s1.2, bdDuty v) (a0.length) ((IntKind.wrap .i64 ((slices_IndexFunc_Duty__impl_dutiesOf_1 a0 a1) + 1)).toNat) ((slices_IndexFunc_Duty__impl_dutiesOf_1 a0 a1), a0) [0] hz1 (by (first | trivial | omega | (simp only [ob, ln, bdv, sv] at *; omega) | ((try clear hK K); (repeat' first | apply And.intro | intro _) <;> first | trivial | omega | assumption | solve_by_elim | (apply bd_getD <;> first | assumption | decide) | (apply bd_subL <;> first | assumption | decide) | (simp only [ob, ln, bdv, sv] at *; first | omega | assumption | (simp_all; done) | grind [slices_IndexFunc_Duty__impl_dutiesOf_1_lt])))) (by (first | trivial | (and_intros <;> simp only [ln] <;> omega) | (and_intros <;> simp only [ob, ln] at * <;> omega) | (and_intros <;> first | trivial | omega | assumption | (apply bd_set <;> first | assumption | (apply bd_getD <;> first | assumption | decide)) | (apply bd_app <;> first | assumption | (apply bd_getD <;> first | assumption | decide)) | (simp only [ob, ln, bdv, sv] at *; omega) | (simp; done)))) (by (simp only [si, ea, gv, sv, hk, reduceCtorEq, reduceIte, Nat.reduceBEq, Nat.reduceAdd, Nat.reduceEqDiff, Nat.reduceLT, Nat.reduceLeDiff, Nat.reduceMul, Nat.reduceSub, BEq.rfl, beq_self_eq_true, Int.reduceToNat]; first | done | trivial | (and_intros <;> first | rfl | trivial | omega | (rw [IntKind.wrap_i64]; omega) | (simp only [ln]; done) | (simp only [ob, ln, bdv, sv] at *; first | omega | grind [slices_IndexFunc_Duty__impl_dutiesOf_1_lt]) | (left; intro j hj; simp only [pw, Bool.cond_eq_ite, Bool.and_eq_true, decide_eq_true_eq]; (repeat' split) <;> simp [putL, NoBorL, NoBor]) | (intro j hj; simp only [pw, Bool.cond_eq_ite, Bool.and_eq_true, decide_eq_true_eq]; (try rw [subL_getD _ _ _ _ (by first | assumption | omega)]); (try rw [clearL_getD _ _ _ _ (by first | omega | (simp only [ob, ln, bdv] at *; omega))]); (repeat' split) <;> first | rfl | omega | exact simOL_refl _ | (simp_all; done) | (simp_all; rfl) | (simp_all; omega) | (simp_all; exact simOL_refl _) | (simp [putL, NoBorL, NoBor]; done))))) ?_
    clear hz1
    intro i1 s1 hi1 hW1 hz1
    have hV1 := hW1; obtain ⟨hV1_0, hV1_1, hV1_2, hV1_3, hV1_4⟩ := hV1
    refine AWP.seq ?_
    refine AWP.seq ?_
    refine AWP.regS G_ok slices_DeleteFunc_Duty__impl_dutiesOf_1_DD hc (by kernel_rfl) (fun K hK => ?_); simp only [ea, gv, sv, D_impl_dutiesOf_1, D_slices_IndexFunc_Duty__impl_dutiesOf_1, reduceCtorEq, reduceIte, Nat.reduceBEq, Nat.reduceAdd, Nat.reduceEqDiff, Nat.reduceLT, Nat.reduceLeDiff, Nat.reduceMul, Nat.reduceSub, BEq.rfl, beq_self_eq_true, Int.reduceToNat]
    first | refine hK _ ?_ | refine ⟨by (first | trivial | omega | (simp only [ob, ln, bdv, sv] at *; omega) | ((try clear hK K); (repeat' first | apply And.intro | intro _) <;> first | trivial | omega | assumption | solve_by_elim | (apply bd_getD <;> first | assumption | decide) | (apply bd_subL <;> first | assumption | decide) | (simp only [ob, ln, bdv, sv] at *; first | omega | assumption | (simp_all; done) | grind [slices_IndexFunc_Duty__impl_dutiesOf_1_lt]))), hK _ ?_⟩
    clear hK K
    refine AWP.cond rfl (fun hb => ?_) (fun hb => ?_)
    · have hlt1 : i1 < a0.length := by (first | trivial | omega | (simp only [ob, ln, bdv, sv] at *; omega) | ((try clear hK K); (repeat' first | apply And.intro | intro _) <;> first | trivial | omega | assumption | solve_by_elim | (apply bd_getD <;> first | assumption | decide) | (apply bd_subL <;> first | assumption | decide) | (simp only [ob, ln, bdv, sv] at *; first | omega | assumption | (simp_all; done) | grind [slices_IndexFunc_Duty__impl_dutiesOf_1_lt])))
      rw [loopR_lt hlt1] at hz1; simp only [slices_DeleteFunc_Duty__impl_dutiesOf_1_b1] at hz1
      refine AWP.skip ?_
      refine AWP.seq ?_
      refine AWP.block ?_
      refine AWP.seq ?_
      refine AWP.regS G_ok slices_DeleteFunc_Duty__impl_dutiesOf_1_DD hc (by kernel_rfl) (fun K hK => ?_); simp only [ea, gv, sv, D_impl_dutiesOf_1, D_slices_IndexFunc_Duty__impl_dutiesOf_1, reduceCtorEq, reduceIte, Nat.reduceBEq, Nat.reduceAdd, Nat.reduceEqDiff, Nat.reduceLT, Nat.reduceLeDiff, Nat.reduceMul, Nat.reduceSub, BEq.rfl, beq_self_eq_true, Int.reduceToNat]
      first | refine hK _ ?_ | refine ⟨by (first | trivial | omega | (simp only [ob, ln, bdv, sv] at *; omega) | ((try clear hK K); (repeat' first | apply And.intro | intro _) <;> first | trivial | omega | assumption | solve_by_elim | (apply bd_getD <;> first | assumption | decide) | (apply bd_subL <;> first | assumption | decide) | (simp only [ob, ln, bdv, sv] at *; first | omega | assumption | (simp_all; done) | grind [slices_IndexFunc_Duty__impl_dutiesOf_1_lt]))), hK _ ?_⟩
      clear hK K
      refine AWP.seq ?_
      refine AWP.regS G_ok slices_DeleteFunc_Duty__impl_dutiesOf_1_DD hc (by kernel_rfl) (fun K hK => ?_); simp only [ea, gv, sv, D_impl_dutiesOf_1, D_slices_IndexFunc_Duty__impl_dutiesOf_1, reduceCtorEq, reduceIte, Nat.reduceBEq, Nat.reduceAdd, Nat.reduceEqDiff, Nat.reduceLT, Nat.reduceLeDiff, Nat.reduceMul, Nat.reduceSub, BEq.rfl, beq_self_eq_true, Int.reduceToNat]
      first | refine hK _ ?_ | refine ⟨by (first | trivial | omega | (simp only [ob, ln, bdv, sv] at *; omega) | ((try clear hK K); (repeat' first | apply And.intro | intro _) <;> first | trivial | omega | assumption | solve_by_elim | (apply bd_getD <;> first | assumption | decide) | (apply bd_subL <;> first | assumption | decide) | (simp only [ob, ln, bdv, sv] at *; first | omega | assumption | (simp_all; done) | grind [slices_IndexFunc_Duty__impl_dutiesOf_1_lt]))), hK _ ?_⟩
      clear hK K
      refine AWP.cond rfl (fun hb => ?_) (fun hb => ?_)
      · first | simp only [hb, cond_true] at hz1 | (simp only [*] at hb; simp only [hb, cond_true] at hz1)
        refine AWP.seq ?_
        refine AWP.regS G_ok slices_DeleteFunc_Duty__impl_dutiesOf_1_DD hc (by kernel_rfl) (fun K hK => ?_); simp only [ea, gv, sv, D_impl_dutiesOf_1, D_slices_IndexFunc_Duty__impl_dutiesOf_1, reduceCtorEq, reduceIte, Nat.reduceBEq, Nat.reduceAdd, Nat.reduceEqDiff, Nat.reduceLT, Nat.reduceLeDiff, Nat.reduceMul, Nat.reduceSub, BEq.rfl, beq_self_eq_true, Int.reduceToNat]
        first | refine hK _ ?_ | refine ⟨by (first | trivial | omega | (simp only [ob, ln, bdv, sv] at *; omega) | ((try clear hK K); (repeat' first | apply And.intro | intro _) <;> first | trivial | omega | assumption | solve_by_elim | (apply bd_getD <;> first | assumption | decide) | (apply bd_subL <;> first | assumption | decide) | (simp only [ob, ln, bdv, sv] at *; first | omega | assumption | (simp_all; done) | grind [slices_IndexFunc_Duty__impl_dutiesOf_1_lt]))), hK _ ?_⟩
        clear hK K
        refine AWP.regS G_ok slices_DeleteFunc_Duty__impl_dutiesOf_1_DD hc (by kernel_rfl) (fun K hK => ?_); simp only [ea, gv, sv, D_impl_dutiesOf_1, D_slices_IndexFunc_Duty__impl_dutiesOf_1, reduceCtorEq, reduceIte, Nat.reduceBEq, Nat.reduceAdd, Nat.reduceEqDiff, Nat.reduceLT, Nat.reduceLeDiff, Nat.reduceMul, Nat.reduceSub, BEq.rfl, beq_self_eq_true, Int.reduceToNat]
        first | refine hK _ ?_ | refine ⟨by (first | trivial | omega | (simp only [ob, ln, bdv, sv] at *; omega) | ((try clear hK K); (repeat' first | apply And.intro | intro _) <;> first | trivial | omega | assumption | solve_by_elim | (apply bd_getD <;> first | assumption | decide) | (apply bd_subL <;> first | assumption | decide) | (simp only [ob, ln, bdv, sv] at *; first | omega | assumption | (simp_all; done) | grind [slices_IndexFunc_Duty__impl_dutiesOf_1_lt]))), hK _ ?_⟩
        clear hK K
        refine AWP.regS G_ok slices_DeleteFunc_Duty__impl_dutiesOf_1_DD hc (by kernel_rfl) (fun K hK => ?_); simp only [ea, gv, sv, D_impl_dutiesOf_1, D_slices_IndexFunc_Duty__impl_dutiesOf_1, reduceCtorEq, reduceIte, Nat.reduceBEq, Nat.reduceAdd, Nat.reduceEqDiff, Nat.reduceLT, Nat.reduceLeDiff, Nat.reduceMul, Nat.reduceSub, BEq.rfl, beq_self_eq_true, Int.reduceToNat]
        first | refine hK _ ?_ | refine ⟨by (first | trivial | omega | (simp only [ob, ln, bdv, sv] at *; omega) | ((try clear hK K); (repeat' first | apply And.intro | intro _) <;> first | trivial | omega | assumption | solve_by_elim | (apply bd_getD <;> first | assumption | decide) | (apply bd_subL <;> first | assumption | decide) | (simp only [ob, ln, bdv, sv] at *; first | omega | assumption | (simp_all; done) | grind [slices_IndexFunc_Duty__impl_dutiesOf_1_lt]))), hK _ ?_⟩
        clear hK K
        exact ⟨_, [0], hlt1, by (first | trivial | (and_intros <;> simp only [ln] <;> omega) | (and_intros <;> simp only [ob, ln] at * <;> omega) | (and_intros <;> first | trivial | omega | assumption | (apply bd_set <;> first | assumption | (apply bd_getD <;> first | assumption | decide)) | (apply bd_app <;> first | assumption | (apply bd_getD <;> first | assumption | decide)) | (simp only [ob, ln, bdv, sv] at *; omega) | (simp; done))), hz1, by (simp only [si, ea, gv, sv, hk, reduceCtorEq, reduceIte, Nat.reduceBEq, Nat.reduceAdd, Nat.reduceEqDiff, Nat.reduceLT, Nat.reduceLeDiff, Nat.reduceMul, Nat.reduceSub, BEq.rfl, beq_self_eq_true, Int.reduceToNat]; first | done | trivial | (and_intros <;> first | rfl | trivial | omega | (rw [IntKind.wrap_i64]; omega) | (simp only [ln]; done) | (simp only [ob, ln, bdv, sv] at *; first | omega | grind [slices_IndexFunc_Duty__impl_dutiesOf_1_lt]) | (left; intro j hj; simp only [pw, Bool.cond_eq_ite, Bool.and_eq_true, decide_eq_true_eq]; (repeat' split) <;> simp [putL, NoBorL, NoBor]) | (intro j hj; simp only [pw, Bool.cond_eq_ite, Bool.and_eq_true, decide_eq_true_eq]; (try rw [subL_getD _ _ _ _ (by first | assumption | omega)]); (try rw [clearL_getD _ _ _ _ (by first | omega | (simp only [ob, ln, bdv] at *; omega))]); (repeat' split) <;> first | rfl | omega | exact simOL_refl _ | (simp_all; done) | (simp_all; rfl) | (simp_all; omega) | (simp_all; exact simOL_refl _) | (simp [putL, NoBorL, NoBor]; done))))⟩
      · first | simp only [hb, cond_false] at hz1 | (simp only [*] at hb; simp only [hb, cond_false] at hz1)
        refine AWP.skip ?_
        refine AWP.regS G_ok slices_DeleteFunc_Duty__impl_dutiesOf_1_DD hc (by kernel_rfl) (fun K hK => ?_); simp only [ea, gv, sv, D_impl_dutiesOf_1, D_slices_IndexFunc_Duty__impl_dutiesOf_1, reduceCtorEq, reduceIte, Nat.reduceBEq, Nat.reduceAdd, Nat.reduceEqDiff, Nat.reduceLT, Nat.reduceLeDiff, Nat.reduceMul, Nat.reduceSub, BEq.rfl, beq_self_eq_true, Int.reduceToNat]
        first | refine hK _ ?_ | refine ⟨by (first | trivial | omega | (simp only [ob, ln, bdv, sv] at *; omega) | ((try clear hK K); (repeat' first | apply And.intro | intro _) <;> first | trivial | omega | assumption | solve_by_elim | (apply bd_getD <;> first | assumption | decide) | (apply bd_subL <;> first | assumption | decide) | (simp only [ob, ln, bdv, sv] at *; first | omega | assumption | (simp_all; done) | grind [slices_IndexFunc_Duty__impl_dutiesOf_1_lt]))), hK _ ?_⟩
        clear hK K
        exact ⟨_, [0], hlt1, by (first | trivial | (and_intros <;> simp only [ln] <;> omega) | (and_intros <;> simp only [ob, ln] at * <;> omega) | (and_intros <;> first | trivial | omega | assumption | (apply bd_set <;> first | assumption | (apply bd_getD <;> first | assumption | decide)) | (apply bd_app <;> first | assumption | (apply bd_getD <;> first | assumption | decide)) | (simp only [ob, ln, bdv, sv] at *; omega) | (simp; done))), hz1, by (simp only [si, ea, gv, sv, hk, reduceCtorEq, reduceIte, Nat.reduceBEq, Nat.reduceAdd, Nat.reduceEqDiff, Nat.reduceLT, Nat.reduceLeDiff, Nat.reduceMul, Nat.reduceSub, BEq.rfl, beq_self_eq_true, Int.reduceToNat]; first | done | trivial | (and_intros <;> first | rfl | trivial | omega | (rw [IntKind.wrap_i64]; omega) | (simp only [ln]; done) | (simp only [ob, ln, bdv, sv] at *; first | omega | grind [slices_IndexFunc_Duty__impl_dutiesOf_1_lt]) | (left; intro j hj; simp only [pw, Bool.cond_eq_ite, Bool.and_eq_true, decide_eq_true_eq]; (repeat' split) <;> simp [putL, NoBorL, NoBor]) | (intro j hj; simp only [pw, Bool.cond_eq_ite, Bool.and_eq_true, decide_eq_true_eq]; (try rw [subL_getD _ _ _ _ (by first | assumption | omega)]); (try rw [clearL_getD _ _ _ _ (by first | omega | (simp only [ob, ln, bdv] at *; omega))]); (repeat' split) <;> first | rfl | omega | exact simOL_refl _ | (simp_all; done) | (simp_all; rfl) | (simp_all; omega) | (simp_all; exact simOL_refl _) | (simp [putL, NoBorL, NoBor]; done))))⟩
    · obtain rfl : i1 = a0.length := by (first | trivial | omega | (simp only [ob, ln, bdv, sv] at *; omega) | ((try clear hK K); (repeat' first | apply And.intro | intro _) <;> first | trivial | omega | assumption | solve_by_elim | (apply bd_getD <;> first | assumption | decide) | (apply bd_subL <;> first | assumption | decide) | (simp only [ob, ln, bdv, sv] at *; first | omega | assumption | (simp_all; done) | grind [slices_IndexFunc_Duty__impl_dutiesOf_1_lt])))
      rw [loopR_ge (Nat.le_refl _)] at hz1; subst hz1; dsimp only at hR
      refine AWP.exit ?_; refine exitTo_here ?_
      refine AWP.seq ?_
      refine AWP.regS G_ok slices_DeleteFunc_Duty__impl_dutiesOf_1_DD hc (by kernel_rfl) (fun K hK => ?_); simp only [ea, gv, sv, D_impl_dutiesOf_1, D_slices_IndexFunc_Duty__impl_dutiesOf_1, reduceCtorEq, reduceIte, Nat.reduceBEq, Nat.reduceAdd, Nat.reduceEqDiff, Nat.reduceLT, Nat.reduceLeDiff, Nat.reduceMul, Nat.reduceSub, BEq.rfl, beq_self_eq_true, Int.reduceToNat]
      first | refine hK _ ?_ | refine ⟨by (first | trivial | omega | (simp only [ob, ln, bdv, sv] at *; omega) | ((try clear hK K); (repeat' first | apply And.intro | intro _) <;> first | trivial | omega | assumption | solve_by_elim | (apply bd_getD <;> first | assumption | decide) | (apply bd_subL <;> first | assumption | decide) | (simp only [ob, ln, bdv, sv] at *; first | omega | assumption | (simp_all; done) | grind [slices_IndexFunc_Duty__impl_dutiesOf_1_lt]))), hK _ ?_⟩
      clear hK K
      refine AWP.seq ?_
      refine AWP.regS G_ok slices_DeleteFunc_Duty__impl_dutiesOf_1_DD hc (by kernel_rfl) (fun K hK => ?_); simp only [ea, gv, sv, D_impl_dutiesOf_1, D_slices_IndexFunc_Duty__impl_dutiesOf_1, reduceCtorEq, reduceIte, Nat.reduceBEq, Nat.reduceAdd, Nat.reduceEqDiff, Nat.reduceLT, Nat.reduceLeDiff, Nat.reduceMul, Nat.reduceSub, BEq.rfl, beq_self_eq_true, Int.reduceToNat]
      first | refine hK _ ?_ | refine ⟨by (first | trivial | omega | (simp only [ob, ln, bdv, sv] at *; omega) | ((try clear hK K); (repeat' first | apply And.intro | intro _) <;> first | trivial | omega | assumption | solve_by_elim | (apply bd_getD <;> first | assumption | decide) | (apply bd_subL <;> first | assumption | decide) | (simp only [ob, ln, bdv, sv] at *; first | omega | assumption | (simp_all; done) | grind [slices_IndexFunc_Duty__impl_dutiesOf_1_lt]))), hK _ ?_⟩
      clear hK K
      refine AWP.ret ?_
      subst hR
      (simp only [en, si, ea, gv, sv, hk, reduceCtorEq, reduceIte, Nat.reduceBEq, Nat.reduceAdd, Nat.reduceEqDiff, Nat.reduceLT, Nat.reduceLeDiff, Nat.reduceMul, Nat.reduceSub, BEq.rfl, beq_self_eq_true, Int.reduceToNat]; first | done | trivial | (and_intros <;> first | rfl | trivial | omega | (rw [IntKind.wrap_i64]; omega) | (simp only [ln]; done) | (simp only [ob, ln, bdv, sv] at *; first | omega | grind [slices_IndexFunc_Duty__impl_dutiesOf_1_lt]) | (left; intro j hj; simp only [pw, Bool.cond_eq_ite, Bool.and_eq_true, decide_eq_true_eq]; (repeat' split) <;> simp [putL, NoBorL, NoBor]) | (intro j hj; simp only [pw, Bool.cond_eq_ite, Bool.and_eq_true, decide_eq_true_eq]; (try rw [subL_getD _ _ _ _ (by first | assumption | omega)]); (try rw [clearL_getD _ _ _ _ (by first | omega | (simp only [ob, ln, bdv] at *; omega))]); (repeat' split) <;> first | rfl | omega | exact simOL_refl _ | (simp_all; done) | (simp_all; rfl) | (simp_all; omega) | (simp_all; exact simOL_refl _) | (simp [putL, NoBorL, NoBor]; done))))

def D_slices_DeleteFunc_Duty__impl_dutiesOf_1 : List AV → Option (AV × List AV × List Prop)
  | [x0, (.fn f129_2 kf129_2 [y1])] => some (ownL 103 3 eDuty (slices_DeleteFunc_Duty__impl_dutiesOf_1 (rdL dDuty x0) (rdP dS y1)), [.any, .any], [wO 103 3 eDuty dDuty x0, y1 = .ep (eS (rdP dS y1)), f129_2 = 129, kf129_2 = 0, (rdL dDuty x0).length < 1099511627776, ∀ v ∈ (rdL dDuty x0), bdDuty v, (rdP dS y1).length < 1099511627776])
  | _ => none
theorem D_slices_DeleteFunc_Duty__impl_dutiesOf_1_ok : OkM Try.prog 127 D_slices_DeleteFunc_Duty__impl_dutiesOf_1 := by
  intro xs r outs ob h ho
  unfold D_slices_DeleteFunc_Duty__impl_dutiesOf_1 at h
  split at h
  · simp only [Option.some.injEq, Prod.mk.injEq] at h
    obtain ⟨rfl, rfl, rfl⟩ := h
    obtain ⟨h0, qy1, qf129_2, qkf129_2, hb0, hb1, hb2, _⟩ := ho
    exact DenM.sim (slices_DeleteFunc_Duty__impl_dutiesOf_1_den _ _ hb0 hb1 hb2) (simOL_cons (wO_sim h0) <| simOL_cons (by subst qf129_2 qkf129_2; rw [← qy1]; exact simO_refl _) <| trivial)
  · cases h
end Go.Ab

namespace Go.Ab
open Go Go.Proofs
theorem impl_clone_Duty_DD : DOk Try.prog (DD []) := DD_nil _
def impl_clone_Duty (a0 : (List Duty)) : (List Duty) :=
  (List.replicate 0 (default : Duty)) ++ a0

theorem impl_clone_Duty_den (a0 : (List Duty)) (hb0 : a0.length < 1099511627776) (hb1 : ∀ v ∈ a0, bdDuty v) : Den Try.prog 128 [encL 3 eDuty a0] (ownL 103 3 eDuty (impl_clone_Duty a0)) := by
  generalize hR : impl_clone_Duty a0 = r
  unfold impl_clone_Duty at hR
  refine den_intro G_ok Try.func128 (by kernel_rfl) rfl Try.ntmps128 (by rw [Try.results128]) (by simp) rfl ?_
  intro c hc hk
  simp only [pars, Nat.zero_add]
  refine AWP.seq ?_
  refine AWP.regS G_ok impl_clone_Duty_DD hc (by kernel_rfl) (fun K hK => ?_); simp only [ea, gv, sv, reduceCtorEq, reduceIte, Nat.reduceBEq, Nat.reduceAdd, Nat.reduceEqDiff, Nat.reduceLT, Nat.reduceLeDiff, Nat.reduceMul, Nat.reduceSub, BEq.rfl, beq_self_eq_true, Int.reduceToNat]
  first | refine hK _ ?_ | refine ⟨by (first | trivial | omega | (simp only [ob, ln, bdv, sv] at *; omega) | ((try clear hK K); (repeat' first | apply And.intro | intro _) <;> first | trivial | omega | assumption | solve_by_elim | (apply bd_getD <;> first | assumption | decide) | (apply bd_subL <;> first | assumption | decide) | (simp only [ob, ln, bdv, sv] at *; first | omega | assumption | (simp_all; done) | grind))), hK _ ?_⟩
  clear hK K
  refine AWP.seq ?_
  refine AWP.regS G_ok impl_clone_Duty_DD hc (by kernel_rfl) (fun K hK => ?_); simp only [ea, gv, sv, reduceCtorEq, reduceIte, Nat.reduceBEq, Nat.reduceAdd, Nat.reduceEqDiff, Nat.reduceLT, Nat.reduceLeDiff, Nat.reduceMul, Nat.reduceSub, BEq.rfl, beq_self_eq_true, Int.reduceToNat]
  first | refine hK _ ?_ | refine ⟨by (first | trivial | omega | (simp only [ob, ln, bdv, sv] at *; omega) | ((try clear hK K); (repeat' first | apply And.intro | intro _) <;> first | trivial | omega | assumption | solve_by_elim | (apply bd_getD <;> first | assumption | decide) | (apply bd_subL <;> first | assumption | decide) | (simp only [ob, ln, bdv, sv] at *; first | omega | assumption | (simp_all; done) | grind))), hK _ ?_⟩
  clear hK K
  refine AWP.ret ?_
  subst hR
  (simp only [en, si, ea, gv, sv, hk, reduceCtorEq, reduceIte, Nat.reduceBEq, Nat.reduceAdd, Nat.reduceEqDiff, Nat.reduceLT, Nat.reduceLeDiff, Nat.reduceMul, Nat.reduceSub, BEq.rfl, beq_self_eq_true, Int.reduceToNat]; first | done | trivial | (and_intros <;> first | rfl | trivial | omega | (rw [IntKind.wrap_i64]; omega) | (simp only [ln]; done) | (simp only [ob, ln, bdv, sv] at *; first | omega | grind) | (left; intro j hj; simp only [pw, Bool.cond_eq_ite, Bool.and_eq_true, decide_eq_true_eq]; (repeat' split) <;> simp [putL, NoBorL, NoBor]) | (intro j hj; simp only [pw, Bool.cond_eq_ite, Bool.and_eq_true, decide_eq_true_eq]; (try rw [subL_getD _ _ _ _ (by first | assumption | omega)]); (try rw [clearL_getD _ _ _ _ (by first | omega | (simp only [ob, ln, bdv] at *; omega))]); (repeat' split) <;> first | rfl | omega | exact simOL_refl _ | (simp_all; done) | (simp_all; rfl) | (simp_all; omega) | (simp_all; exact simOL_refl _) | (simp [putL, NoBorL, NoBor]; done))))

def D_impl_clone_Duty : DF
  | [x0] => some (ownL 103 3 eDuty (impl_clone_Duty (rdL dDuty x0)), false, [wL 3 eDuty dDuty x0, (rdL dDuty x0).length < 1099511627776, ∀ v ∈ (rdL dDuty x0), bdDuty v])
  | _ => none
def Dz_impl_clone_Duty : DF
  | [x0] => some (ownL 103 3 eDuty (impl_clone_Duty (rdL dDuty x0)), true, [wL 3 eDuty dDuty x0, (rdL dDuty x0).length < 1099511627776, ∀ v ∈ (rdL dDuty x0), bdDuty v])
  | _ => none
theorem D_impl_clone_Duty_ok : OkD Try.prog 128 D_impl_clone_Duty := by
  intro xs r z ob h ho
  unfold D_impl_clone_Duty at h
  split at h
  · simp only [Option.some.injEq, Prod.mk.injEq] at h
    obtain ⟨rfl, rfl, rfl⟩ := h
    obtain ⟨h0, hb0, hb1, _⟩ := ho
    exact Den.sim (impl_clone_Duty_den _ hb0 hb1) (simOL_cons (wL_sim h0).1 <| trivial) (noIdL_cons (wL_sim h0).2 <| rfl) rfl
  · cases h

theorem Dz_impl_clone_Duty_ok : OkD Try.prog 128 Dz_impl_clone_Duty := by
  intro xs r z ob h ho
  unfold Dz_impl_clone_Duty at h
  split at h
  · simp only [Option.some.injEq, Prod.mk.injEq] at h
    obtain ⟨rfl, rfl, rfl⟩ := h
    obtain ⟨h0, hb0, hb1, _⟩ := ho
    exact Den.sim (impl_clone_Duty_den _ hb0 hb1) (simOL_cons (wL_sim h0).1 <| trivial) (noIdL_cons (wL_sim h0).2 <| rfl) rfl
  · cases h
end Go.Ab

namespace Go.Ab
open Go Go.Proofs
theorem slices_DeleteFunc_Duty__impl_dutiesOf_1_eq (a0 : List Duty) (a2 : List UInt8) (hl : a0.length < 1099511627776) : slices_DeleteFunc_Duty__impl_dutiesOf_1 a0 a2 = a0.filter (fun x => !(impl_dutiesOf_1 x a2)) := by
  unfold slices_DeleteFunc_Duty__impl_dutiesOf_1
  rcases slices_IndexFunc_Duty__impl_dutiesOf_1_first a0 a2 with ⟨i0, h1, h2, h3, h4⟩ | ⟨h1, h4⟩
  · have hne : ((slices_IndexFunc_Duty__impl_dutiesOf_1 a0 a2) == -1) = false := by rw [h4, beq_eq_false_iff_ne]; omega
    rw [hne, cond_false, h4]
    have hk : (IntKind.wrap .i64 ((i0 : Int) + 1)).toNat = i0 + 1 := by rw [IntKind.wrap_i64]; omega
    rw [hk]
    obtain ⟨s, g1, g2, g3, g4, g5⟩ := delete_loop (fun x => impl_dutiesOf_1 x a2) a0 i0 (b := slices_DeleteFunc_Duty__impl_dutiesOf_1_b1 a0 a2) (fun j s => rfl) h1 h2 h3 hl
    rw [g1]
    simp only
    rw [subL_clear _ _ _ (by omega), g5]
  · have hne : ((slices_IndexFunc_Duty__impl_dutiesOf_1 a0 a2) == -1) = true := by rw [h4]; rfl
    rw [hne, cond_true]
    symm
    rw [List.filter_eq_self]
    intro x hx
    obtain ⟨i, hi, rfl⟩ := List.getElem_of_mem hx
    have := h1 i hi
    rw [List.getD_eq_getElem?_getD, List.getElem?_eq_getElem hi] at this
    simpa using this
theorem slices_DeleteFunc_Duty__impl_dutiesOf_1_len (a0 : List Duty) (a2 : List UInt8) (hl : a0.length < 1099511627776) : (slices_DeleteFunc_Duty__impl_dutiesOf_1 a0 a2).length ≤ a0.length := by
  rw [slices_DeleteFunc_Duty__impl_dutiesOf_1_eq a0 a2 hl]; exact List.length_filter_le _ _
end Go.Ab

namespace Go.Ab
open Go Go.Proofs
theorem impl_clone_Duty_id (a : List Duty) : impl_clone_Duty a = a := by simp [impl_clone_Duty]
end Go.Ab

namespace Go.Ab
open Go Go.Proofs
theorem impl_dutiesOf_DD : DOk Try.prog (DD [(127, dM [true, false] D_slices_DeleteFunc_Duty__impl_dutiesOf_1), (128, dP D_impl_clone_Duty)]) := DD_cons D_slices_DeleteFunc_Duty__impl_dutiesOf_1_ok.e <| DD_cons D_impl_clone_Duty_ok.e <| DD_nil _
def impl_dutiesOf (a0 : (List Duty)) (a1 : (List UInt8)) : (List Duty) :=
  ((slices_DeleteFunc_Duty__impl_dutiesOf_1 (impl_clone_Duty a0) a1))

theorem impl_dutiesOf_den (a0 : (List Duty)) (a1 : (List UInt8)) (hb0 : a0.length < 1099511627776) (hb1 : ∀ v ∈ a0, bdDuty v) (hb2 : a1.length < 1099511627776) : Den Try.prog 94 [encL 3 eDuty a0, .str a1] (ownL 103 3 eDuty (impl_dutiesOf a0 a1)) := by
  generalize hR : impl_dutiesOf a0 a1 = r
  unfold impl_dutiesOf at hR
  refine den_intro G_ok Try.func94 (by kernel_rfl) rfl Try.ntmps94 (by rw [Try.results94]) (by simp) rfl ?_
  intro c hc hk
  simp only [pars, Nat.zero_add]
  refine AWP.seq ?_
  refine AWP.regS G_ok impl_dutiesOf_DD hc (by kernel_rfl) (fun K hK => ?_); simp only [ea, absV, absVL, gv, sv, D_slices_DeleteFunc_Duty__impl_dutiesOf_1, D_impl_clone_Duty, reduceCtorEq, reduceIte, Nat.reduceBEq, Nat.reduceAdd, Nat.reduceEqDiff, Nat.reduceLT, Nat.reduceLeDiff, Nat.reduceMul, Nat.reduceSub, BEq.rfl, beq_self_eq_true, Int.reduceToNat]
  first | refine hK _ ?_ | refine ⟨by (first | trivial | omega | (simp only [ob, ln, bdv, impl_clone_Duty_id, sv] at *; omega) | ((try clear hK K); (repeat' first | apply And.intro | intro _) <;> first | trivial | omega | assumption | solve_by_elim | (apply bd_getD <;> first | assumption | decide) | (apply bd_subL <;> first | assumption | decide) | (simp only [ob, ln, bdv, impl_clone_Duty_id, sv] at *; first | omega | assumption | (simp_all; done) | grind [slices_DeleteFunc_Duty__impl_dutiesOf_1_len]))), hK _ ?_⟩
  clear hK K
  refine AWP.seq ?_
  refine AWP.regS G_ok impl_dutiesOf_DD hc (by kernel_rfl) (fun K hK => ?_); simp only [ea, absV, absVL, gv, sv, D_slices_DeleteFunc_Duty__impl_dutiesOf_1, D_impl_clone_Duty, reduceCtorEq, reduceIte, Nat.reduceBEq, Nat.reduceAdd, Nat.reduceEqDiff, Nat.reduceLT, Nat.reduceLeDiff, Nat.reduceMul, Nat.reduceSub, BEq.rfl, beq_self_eq_true, Int.reduceToNat]
  first | refine hK _ ?_ | refine ⟨by (first | trivial | omega | (simp only [ob, ln, bdv, impl_clone_Duty_id, sv] at *; omega) | ((try clear hK K); (repeat' first | apply And.intro | intro _) <;> first | trivial | omega | assumption | solve_by_elim | (apply bd_getD <;> first | assumption | decide) | (apply bd_subL <;> first | assumption | decide) | (simp only [ob, ln, bdv, impl_clone_Duty_id, sv] at *; first | omega | assumption | (simp_all; done) | grind [slices_DeleteFunc_Duty__impl_dutiesOf_1_len]))), hK _ ?_⟩
  clear hK K
  refine AWP.ret ?_
  subst hR
  (simp only [en, si, ea, gv, sv, hk, reduceCtorEq, reduceIte, Nat.reduceBEq, Nat.reduceAdd, Nat.reduceEqDiff, Nat.reduceLT, Nat.reduceLeDiff, Nat.reduceMul, Nat.reduceSub, BEq.rfl, beq_self_eq_true, Int.reduceToNat]; first | done | trivial | (and_intros <;> first | rfl | trivial | omega | (rw [IntKind.wrap_i64]; omega) | (simp only [ln]; done) | (simp only [ob, ln, bdv, impl_clone_Duty_id, sv] at *; first | omega | grind [slices_DeleteFunc_Duty__impl_dutiesOf_1_len]) | (left; intro j hj; simp only [pw, Bool.cond_eq_ite, Bool.and_eq_true, decide_eq_true_eq]; (repeat' split) <;> simp [putL, NoBorL, NoBor]) | (intro j hj; simp only [pw, Bool.cond_eq_ite, Bool.and_eq_true, decide_eq_true_eq]; (try rw [subL_getD _ _ _ _ (by first | assumption | omega)]); (try rw [clearL_getD _ _ _ _ (by first | omega | (simp only [ob, ln, bdv] at *; omega))]); (repeat' split) <;> first | rfl | omega | exact simOL_refl _ | (simp_all; done) | (simp_all; rfl) | (simp_all; omega) | (simp_all; exact simOL_refl _) | (simp [putL, NoBorL, NoBor]; done))))

def D_impl_dutiesOf : DF
  | [x0, x1] => some (ownL 103 3 eDuty (impl_dutiesOf (rdL dDuty x0) (rdS x1)), false, [wL 3 eDuty dDuty x0, wS x1, (rdL dDuty x0).length < 1099511627776, ∀ v ∈ (rdL dDuty x0), bdDuty v, (rdS x1).length < 1099511627776])
  | _ => none
def Dz_impl_dutiesOf : DF
  | [x0, x1] => some (ownL 103 3 eDuty (impl_dutiesOf (rdL dDuty x0) (rdS x1)), true, [wL 3 eDuty dDuty x0, wS x1, (rdL dDuty x0).length < 1099511627776, ∀ v ∈ (rdL dDuty x0), bdDuty v, (rdS x1).length < 1099511627776])
  | _ => none
theorem D_impl_dutiesOf_ok : OkD Try.prog 94 D_impl_dutiesOf := by
  intro xs r z ob h ho
  unfold D_impl_dutiesOf at h
  split at h
  · simp only [Option.some.injEq, Prod.mk.injEq] at h
    obtain ⟨rfl, rfl, rfl⟩ := h
    obtain ⟨h0, h1, hb0, hb1, hb2, _⟩ := ho
    exact Den.sim (impl_dutiesOf_den _ _ hb0 hb1 hb2) (simOL_cons (wL_sim h0).1 <| simOL_cons (wS_sim h1).1 <| trivial) (noIdL_cons (wL_sim h0).2 <| noIdL_cons (wS_sim h1).2 <| rfl) rfl
  · cases h

theorem Dz_impl_dutiesOf_ok : OkD Try.prog 94 Dz_impl_dutiesOf := by
  intro xs r z ob h ho
  unfold Dz_impl_dutiesOf at h
  split at h
  · simp only [Option.some.injEq, Prod.mk.injEq] at h
    obtain ⟨rfl, rfl, rfl⟩ := h
    obtain ⟨h0, h1, hb0, hb1, hb2, _⟩ := ho
    exact Den.sim (impl_dutiesOf_den _ _ hb0 hb1 hb2) (simOL_cons (wL_sim h0).1 <| simOL_cons (wS_sim h1).1 <| trivial) (noIdL_cons (wL_sim h0).2 <| noIdL_cons (wS_sim h1).2 <| rfl) rfl
  · cases h
end Go.Ab

namespace Go.Ab
open Go Go.Proofs
theorem impl_dutiesOf_len (a : List Duty) (k : List UInt8) (hl : a.length < 1099511627776) : (impl_dutiesOf a k).length ≤ a.length := by
  unfold impl_dutiesOf
  rw [impl_clone_Duty_id]
  exact slices_DeleteFunc_Duty__impl_dutiesOf_1_len a k hl
end Go.Ab

namespace Go.Ab
open Go Go.Proofs
theorem spec_OpenFaults_DD : DOk Try.prog (DD [(52, dP D_spec_l20Ok)]) := DD_cons D_spec_l20Ok_ok.e <| DD_nil _
def spec_OpenFaults_b1 (a0 : (List Fault)) (i1 : Nat) (s1 : List Fault) : Except (((List Fault) × Int)) (List Fault) :=
  (bif (((a0.getD i1 default).Until) == (-1)) then .ok (s1 ++ [(a0.getD i1 default)]) else .ok s1)

def spec_OpenFaults (a0 : (List Fault)) : ((List Fault) × Int) :=
  (bif (!(spec_l20Ok a0)) then ([], 1) else (match loopR (spec_OpenFaults_b1 a0) (a0.length - 0) 0 ([] : List Fault) with | .error e => e | .ok s1 => (s1, 0)))

theorem spec_OpenFaults_den (a0 : (List Fault)) (hb0 : a0.length < 1099511627776) : Den Try.prog 42 [encL 4 eFault a0] (.tup [ownL 70 4 eFault ((spec_OpenFaults a0).1), .int .i64 ((spec_OpenFaults a0).2)]) := by
  generalize hR : spec_OpenFaults a0 = r
  unfold spec_OpenFaults at hR
  refine den_intro G_ok Try.func42 (by kernel_rfl) rfl Try.ntmps42 (by rw [Try.results42]) (by simp) rfl ?_
  intro c hc hk
  simp only [pars, Nat.zero_add]
  refine AWP.seq ?_
  refine AWP.regS G_ok spec_OpenFaults_DD hc (by kernel_rfl) (fun K hK => ?_); simp only [ea, gv, sv, D_spec_l20Ok, reduceCtorEq, reduceIte, Nat.reduceBEq, Nat.reduceAdd, Nat.reduceEqDiff, Nat.reduceLT, Nat.reduceLeDiff, Nat.reduceMul, Nat.reduceSub, BEq.rfl, beq_self_eq_true, Int.reduceToNat]
  first | refine hK _ ?_ | refine ⟨by (first | trivial | omega | (simp only [ob, ln, bdv, sv] at *; omega) | ((try clear hK K); (repeat' first | apply And.intro | intro _) <;> first | trivial | omega | assumption | solve_by_elim | (apply bd_getD <;> first | assumption | decide) | (apply bd_subL <;> first | assumption | decide) | (simp only [ob, ln, bdv, sv] at *; first | omega | assumption | (simp_all; done) | grind))), hK _ ?_⟩
  clear hK K
  refine AWP.seq ?_
  refine AWP.seq ?_
  refine AWP.regS G_ok spec_OpenFaults_DD hc (by kernel_rfl) (fun K hK => ?_); simp only [ea, gv, sv, D_spec_l20Ok, reduceCtorEq, reduceIte, Nat.reduceBEq, Nat.reduceAdd, Nat.reduceEqDiff, Nat.reduceLT, Nat.reduceLeDiff, Nat.reduceMul, Nat.reduceSub, BEq.rfl, beq_self_eq_true, Int.reduceToNat]
  first | refine hK _ ?_ | refine ⟨by (first | trivial | omega | (simp only [ob, ln, bdv, sv] at *; omega) | ((try clear hK K); (repeat' first | apply And.intro | intro _) <;> first | trivial | omega | assumption | solve_by_elim | (apply bd_getD <;> first | assumption | decide) | (apply bd_subL <;> first | assumption | decide) | (simp only [ob, ln, bdv, sv] at *; first | omega | assumption | (simp_all; done) | grind))), hK _ ?_⟩
  clear hK K
  refine AWP.cond rfl (fun hb => ?_) (fun hb => ?_)
  · first | simp only [hb, cond_true] at hR | (simp only [*] at hb; simp only [hb, cond_true] at hR)
    refine AWP.seq ?_
    refine AWP.regS G_ok spec_OpenFaults_DD hc (by kernel_rfl) (fun K hK => ?_); simp only [ea, gv, sv, D_spec_l20Ok, reduceCtorEq, reduceIte, Nat.reduceBEq, Nat.reduceAdd, Nat.reduceEqDiff, Nat.reduceLT, Nat.reduceLeDiff, Nat.reduceMul, Nat.reduceSub, BEq.rfl, beq_self_eq_true, Int.reduceToNat]
    first | refine hK _ ?_ | refine ⟨by (first | trivial | omega | (simp only [ob, ln, bdv, sv] at *; omega) | ((try clear hK K); (repeat' first | apply And.intro | intro _) <;> first | trivial | omega | assumption | solve_by_elim | (apply bd_getD <;> first | assumption | decide) | (apply bd_subL <;> first | assumption | decide) | (simp only [ob, ln, bdv, sv] at *; first | omega | assumption | (simp_all; done) | grind))), hK _ ?_⟩
    clear hK K
    refine AWP.ret ?_
    subst hR
    (simp only [en, si, ea, gv, sv, hk, reduceCtorEq, reduceIte, Nat.reduceBEq, Nat.reduceAdd, Nat.reduceEqDiff, Nat.reduceLT, Nat.reduceLeDiff, Nat.reduceMul, Nat.reduceSub, BEq.rfl, beq_self_eq_true, Int.reduceToNat]; first | done | trivial | (and_intros <;> first | rfl | trivial | omega | (rw [IntKind.wrap_i64]; omega) | (simp only [ln]; done) | (simp only [ob, ln, bdv, sv] at *; first | omega | grind) | (left; intro j hj; simp only [pw, Bool.cond_eq_ite, Bool.and_eq_true, decide_eq_true_eq]; (repeat' split) <;> simp [putL, NoBorL, NoBor]) | (intro j hj; simp only [pw, Bool.cond_eq_ite, Bool.and_eq_true, decide_eq_true_eq]; (try rw [subL_getD _ _ _ _ (by first | assumption | omega)]); (try rw [clearL_getD _ _ _ _ (by first | omega | (simp only [ob, ln, bdv] at *; omega))]); (repeat' split) <;> first | rfl | omega | exact simOL_refl _ | (simp_all; done) | (simp_all; rfl) | (simp_all; omega) | (simp_all; exact simOL_refl _) | (simp [putL, NoBorL, NoBor]; done))))
  · first | simp only [hb, cond_false] at hR | (simp only [*] at hb; simp only [hb, cond_false] at hR)
    refine AWP.skip ?_
    refine AWP.seq ?_
    refine AWP.regS G_ok spec_OpenFaults_DD hc (by kernel_rfl) (fun K hK => ?_); simp only [ea, gv, sv, D_spec_l20Ok, reduceCtorEq, reduceIte, Nat.reduceBEq, Nat.reduceAdd, Nat.reduceEqDiff, Nat.reduceLT, Nat.reduceLeDiff, Nat.reduceMul, Nat.reduceSub, BEq.rfl, beq_self_eq_true, Int.reduceToNat]
    first | refine hK _ ?_ | refine ⟨by (first | trivial | omega | (simp only [ob, ln, bdv, sv] at *; omega) | ((try clear hK K); (repeat' first | apply And.intro | intro _) <;> first | trivial | omega | assumption | solve_by_elim | (apply bd_getD <;> first | assumption | decide) | (apply bd_subL <;> first | assumption | decide) | (simp only [ob, ln, bdv, sv] at *; first | omega | assumption | (simp_all; done) | grind))), hK _ ?_⟩
    clear hK K
    refine AWP.seq ?_
    refine AWP.seq ?_
    refine AWP.regS G_ok spec_OpenFaults_DD hc (by kernel_rfl) (fun K hK => ?_); simp only [ea, gv, sv, D_spec_l20Ok, reduceCtorEq, reduceIte, Nat.reduceBEq, Nat.reduceAdd, Nat.reduceEqDiff, Nat.reduceLT, Nat.reduceLeDiff, Nat.reduceMul, Nat.reduceSub, BEq.rfl, beq_self_eq_true, Int.reduceToNat]
    first | refine hK _ ?_ | refine ⟨by (first | trivial | omega | (simp only [ob, ln, bdv, sv] at *; omega) | ((try clear hK K); (repeat' first | apply And.intro | intro _) <;> first | trivial | omega | assumption | solve_by_elim | (apply bd_getD <;> first | assumption | decide) | (apply bd_subL <;> first | assumption | decide) | (simp only [ob, ln, bdv, sv] at *; first | omega | assumption | (simp_all; done) | grind))), hK _ ?_⟩
    clear hK K
    refine AWP.block ?_
    generalize hz1 : loopR (spec_OpenFaults_b1 a0) (a0.length - 0) 0 ([] : List Fault) = z1 at hR
    refine AWP.range (spec_OpenFaults_b1 a0) (fun i1 s1 => ⟨[(0, encL 4 eFault a0), (4, .ref 0 4 0 s1.length), (5, .int .i64 (i1 : Int))], [.arr 70 4 s1.length (fun j => eFault (s1.getD j default))]⟩) (fun i1 s1 => s1.length ≤ ([] : List Fault).length + 1 * i1) (a0.length) 0 ([] : List Fault) [0] hz1 (by (first | trivial | omega | (simp only [ob, ln, bdv, sv] at *; omega) | ((try clear hK K); (repeat' first | apply And.intro | intro _) <;> first | trivial | omega | assumption | solve_by_elim | (apply bd_getD <;> first | assumption | decide) | (apply bd_subL <;> first | assumption | decide) | (simp only [ob, ln, bdv, sv] at *; first | omega | assumption | (simp_all; done) | grind)))) (by (first | trivial | (and_intros <;> simp only [ln] <;> omega) | (and_intros <;> simp only [ob, ln] at * <;> omega) | (and_intros <;> first | trivial | omega | assumption | (apply bd_set <;> first | assumption | (apply bd_getD <;> first | assumption | decide)) | (apply bd_app <;> first | assumption | (apply bd_getD <;> first | assumption | decide)) | (simp only [ob, ln, bdv, sv] at *; omega) | (simp; done)))) (by (simp only [si, ea, gv, sv, hk, reduceCtorEq, reduceIte, Nat.reduceBEq, Nat.reduceAdd, Nat.reduceEqDiff, Nat.reduceLT, Nat.reduceLeDiff, Nat.reduceMul, Nat.reduceSub, BEq.rfl, beq_self_eq_true, Int.reduceToNat]; first | done | trivial | (and_intros <;> first | rfl | trivial | omega | (rw [IntKind.wrap_i64]; omega) | (simp only [ln]; done) | (simp only [ob, ln, bdv, sv] at *; first | omega | grind) | (left; intro j hj; simp only [pw, Bool.cond_eq_ite, Bool.and_eq_true, decide_eq_true_eq]; (repeat' split) <;> simp [putL, NoBorL, NoBor]) | (intro j hj; simp only [pw, Bool.cond_eq_ite, Bool.and_eq_true, decide_eq_true_eq]; (try rw [subL_getD _ _ _ _ (by first | assumption | omega)]); (try rw [clearL_getD _ _ _ _ (by first | omega | (simp only [ob, ln, bdv] at *; omega))]); (repeat' split) <;> first | rfl | omega | exact simOL_refl _ | (simp_all; done) | (simp_all; rfl) | (simp_all; omega) | (simp_all; exact simOL_refl _) | (simp [putL, NoBorL, NoBor]; done))))) ?_
    clear hz1
    intro i1 s1 hi1 hW1 hz1
    refine AWP.seq ?_
    refine AWP.seq ?_
    refine AWP.regS G_ok spec_OpenFaults_DD hc (by kernel_rfl) (fun K hK => ?_); simp only [ea, gv, sv, D_spec_l20Ok, reduceCtorEq, reduceIte, Nat.reduceBEq, Nat.reduceAdd, Nat.reduceEqDiff, Nat.reduceLT, Nat.reduceLeDiff, Nat.reduceMul, Nat.reduceSub, BEq.rfl, beq_self_eq_true, Int.reduceToNat]
    first | refine hK _ ?_ | refine ⟨by (first | trivial | omega | (simp only [ob, ln, bdv, sv] at *; omega) | ((try clear hK K); (repeat' first | apply And.intro | intro _) <;> first | trivial | omega | assumption | solve_by_elim | (apply bd_getD <;> first | assumption | decide) | (apply bd_subL <;> first | assumption | decide) | (simp only [ob, ln, bdv, sv] at *; first | omega | assumption | (simp_all; done) | grind))), hK _ ?_⟩
    clear hK K
    refine AWP.cond rfl (fun hb => ?_) (fun hb => ?_)
    · have hlt1 : i1 < a0.length := by (first | trivial | omega | (simp only [ob, ln, bdv, sv] at *; omega) | ((try clear hK K); (repeat' first | apply And.intro | intro _) <;> first | trivial | omega | assumption | solve_by_elim | (apply bd_getD <;> first | assumption | decide) | (apply bd_subL <;> first | assumption | decide) | (simp only [ob, ln, bdv, sv] at *; first | omega | assumption | (simp_all; done) | grind)))
      rw [loopR_lt hlt1] at hz1; simp only [spec_OpenFaults_b1] at hz1
      refine AWP.skip ?_
      refine AWP.seq ?_
      refine AWP.block ?_
      refine AWP.seq ?_
      refine AWP.regS G_ok spec_OpenFaults_DD hc (by kernel_rfl) (fun K hK => ?_); simp only [ea, gv, sv, D_spec_l20Ok, reduceCtorEq, reduceIte, Nat.reduceBEq, Nat.reduceAdd, Nat.reduceEqDiff, Nat.reduceLT, Nat.reduceLeDiff, Nat.reduceMul, Nat.reduceSub, BEq.rfl, beq_self_eq_true, Int.reduceToNat]
      first | refine hK _ ?_ | refine ⟨by (first | trivial | omega | (simp only [ob, ln, bdv, sv] at *; omega) | ((try clear hK K); (repeat' first | apply And.intro | intro _) <;> first | trivial | omega | assumption | solve_by_elim | (apply bd_getD <;> first | assumption | decide) | (apply bd_subL <;> first | assumption | decide) | (simp only [ob, ln, bdv, sv] at *; first | omega | assumption | (simp_all; done) | grind))), hK _ ?_⟩
      clear hK K
      refine AWP.cond rfl (fun hb => ?_) (fun hb => ?_)
      · first | simp only [hb, cond_true] at hz1 | (simp only [*] at hb; simp only [hb, cond_true] at hz1)
        refine AWP.regS G_ok spec_OpenFaults_DD hc (by kernel_rfl) (fun K hK => ?_); simp only [ea, gv, sv, D_spec_l20Ok, reduceCtorEq, reduceIte, Nat.reduceBEq, Nat.reduceAdd, Nat.reduceEqDiff, Nat.reduceLT, Nat.reduceLeDiff, Nat.reduceMul, Nat.reduceSub, BEq.rfl, beq_self_eq_true, Int.reduceToNat]
        first | refine hK _ ?_ | refine ⟨by (first | trivial | omega | (simp only [ob, ln, bdv, sv] at *; omega) | ((try clear hK K); (repeat' first | apply And.intro | intro _) <;> first | trivial | omega | assumption | solve_by_elim | (apply bd_getD <;> first | assumption | decide) | (apply bd_subL <;> first | assumption | decide) | (simp only [ob, ln, bdv, sv] at *; first | omega | assumption | (simp_all; done) | grind))), hK _ ?_⟩
        clear hK K
        refine AWP.regS G_ok spec_OpenFaults_DD hc (by kernel_rfl) (fun K hK => ?_); simp only [ea, gv, sv, D_spec_l20Ok, reduceCtorEq, reduceIte, Nat.reduceBEq, Nat.reduceAdd, Nat.reduceEqDiff, Nat.reduceLT, Nat.reduceLeDiff, Nat.reduceMul, Nat.reduceSub, BEq.rfl, beq_self_eq_true, Int.reduceToNat]
        first | refine hK _ ?_ | refine ⟨by (first | trivial | omega | (simp only [ob, ln, bdv, sv] at *; omega) | ((try clear hK K); (repeat' first | apply And.intro | intro _) <;> first | trivial | omega | assumption | solve_by_elim | (apply bd_getD <;> first | assumption | decide) | (apply bd_subL <;> first | assumption | decide) | (simp only [ob, ln, bdv, sv] at *; first | omega | assumption | (simp_all; done) | grind))), hK _ ?_⟩
        clear hK K
        exact ⟨_, [2], hlt1, by (first | trivial | (and_intros <;> simp only [ln] <;> omega) | (and_intros <;> simp only [ob, ln] at * <;> omega) | (and_intros <;> first | trivial | omega | assumption | (apply bd_set <;> first | assumption | (apply bd_getD <;> first | assumption | decide)) | (apply bd_app <;> first | assumption | (apply bd_getD <;> first | assumption | decide)) | (simp only [ob, ln, bdv, sv] at *; omega) | (simp; done))), hz1, by (simp only [si, ea, gv, sv, hk, reduceCtorEq, reduceIte, Nat.reduceBEq, Nat.reduceAdd, Nat.reduceEqDiff, Nat.reduceLT, Nat.reduceLeDiff, Nat.reduceMul, Nat.reduceSub, BEq.rfl, beq_self_eq_true, Int.reduceToNat]; first | done | trivial | (and_intros <;> first | rfl | trivial | omega | (rw [IntKind.wrap_i64]; omega) | (simp only [ln]; done) | (simp only [ob, ln, bdv, sv] at *; first | omega | grind) | (left; intro j hj; simp only [pw, Bool.cond_eq_ite, Bool.and_eq_true, decide_eq_true_eq]; (repeat' split) <;> simp [putL, NoBorL, NoBor]) | (intro j hj; simp only [pw, Bool.cond_eq_ite, Bool.and_eq_true, decide_eq_true_eq]; (try rw [subL_getD _ _ _ _ (by first | assumption | omega)]); (try rw [clearL_getD _ _ _ _ (by first | omega | (simp only [ob, ln, bdv] at *; omega))]); (repeat' split) <;> first | rfl | omega | exact simOL_refl _ | (simp_all; done) | (simp_all; rfl) | (simp_all; omega) | (simp_all; exact simOL_refl _) | (simp [putL, NoBorL, NoBor]; done))))⟩
      · first | simp only [hb, cond_false] at hz1 | (simp only [*] at hb; simp only [hb, cond_false] at hz1)
        refine AWP.skip ?_
        refine AWP.regS G_ok spec_OpenFaults_DD hc (by kernel_rfl) (fun K hK => ?_); simp only [ea, gv, sv, D_spec_l20Ok, reduceCtorEq, reduceIte, Nat.reduceBEq, Nat.reduceAdd, Nat.reduceEqDiff, Nat.reduceLT, Nat.reduceLeDiff, Nat.reduceMul, Nat.reduceSub, BEq.rfl, beq_self_eq_true, Int.reduceToNat]
        first | refine hK _ ?_ | refine ⟨by (first | trivial | omega | (simp only [ob, ln, bdv, sv] at *; omega) | ((try clear hK K); (repeat' first | apply And.intro | intro _) <;> first | trivial | omega | assumption | solve_by_elim | (apply bd_getD <;> first | assumption | decide) | (apply bd_subL <;> first | assumption | decide) | (simp only [ob, ln, bdv, sv] at *; first | omega | assumption | (simp_all; done) | grind))), hK _ ?_⟩
        clear hK K
        exact ⟨_, [0], hlt1, by (first | trivial | (and_intros <;> simp only [ln] <;> omega) | (and_intros <;> simp only [ob, ln] at * <;> omega) | (and_intros <;> first | trivial | omega | assumption | (apply bd_set <;> first | assumption | (apply bd_getD <;> first | assumption | decide)) | (apply bd_app <;> first | assumption | (apply bd_getD <;> first | assumption | decide)) | (simp only [ob, ln, bdv, sv] at *; omega) | (simp; done))), hz1, by (simp only [si, ea, gv, sv, hk, reduceCtorEq, reduceIte, Nat.reduceBEq, Nat.reduceAdd, Nat.reduceEqDiff, Nat.reduceLT, Nat.reduceLeDiff, Nat.reduceMul, Nat.reduceSub, BEq.rfl, beq_self_eq_true, Int.reduceToNat]; first | done | trivial | (and_intros <;> first | rfl | trivial | omega | (rw [IntKind.wrap_i64]; omega) | (simp only [ln]; done) | (simp only [ob, ln, bdv, sv] at *; first | omega | grind) | (left; intro j hj; simp only [pw, Bool.cond_eq_ite, Bool.and_eq_true, decide_eq_true_eq]; (repeat' split) <;> simp [putL, NoBorL, NoBor]) | (intro j hj; simp only [pw, Bool.cond_eq_ite, Bool.and_eq_true, decide_eq_true_eq]; (try rw [subL_getD _ _ _ _ (by first | assumption | omega)]); (try rw [clearL_getD _ _ _ _ (by first | omega | (simp only [ob, ln, bdv] at *; omega))]); (repeat' split) <;> first | rfl | omega | exact simOL_refl _ | (simp_all; done) | (simp_all; rfl) | (simp_all; omega) | (simp_all; exact simOL_refl _) | (simp [putL, NoBorL, NoBor]; done))))⟩
    · obtain rfl : i1 = a0.length := by (first | trivial | omega | (simp only [ob, ln, bdv, sv] at *; omega) | ((try clear hK K); (repeat' first | apply And.intro | intro _) <;> first | trivial | omega | assumption | solve_by_elim | (apply bd_getD <;> first | assumption | decide) | (apply bd_subL <;> first | assumption | decide) | (simp only [ob, ln, bdv, sv] at *; first | omega | assumption | (simp_all; done) | grind)))
      rw [loopR_ge (Nat.le_refl _)] at hz1; subst hz1; dsimp only at hR
      refine AWP.exit ?_; refine exitTo_here ?_
      refine AWP.seq ?_
      refine AWP.regS G_ok spec_OpenFaults_DD hc (by kernel_rfl) (fun K hK => ?_); simp only [ea, gv, sv, D_spec_l20Ok, reduceCtorEq, reduceIte, Nat.reduceBEq, Nat.reduceAdd, Nat.reduceEqDiff, Nat.reduceLT, Nat.reduceLeDiff, Nat.reduceMul, Nat.reduceSub, BEq.rfl, beq_self_eq_true, Int.reduceToNat]
      first | refine hK _ ?_ | refine ⟨by (first | trivial | omega | (simp only [ob, ln, bdv, sv] at *; omega) | ((try clear hK K); (repeat' first | apply And.intro | intro _) <;> first | trivial | omega | assumption | solve_by_elim | (apply bd_getD <;> first | assumption | decide) | (apply bd_subL <;> first | assumption | decide) | (simp only [ob, ln, bdv, sv] at *; first | omega | assumption | (simp_all; done) | grind))), hK _ ?_⟩
      clear hK K
      refine AWP.ret ?_
      subst hR
      (simp only [en, si, ea, gv, sv, hk, reduceCtorEq, reduceIte, Nat.reduceBEq, Nat.reduceAdd, Nat.reduceEqDiff, Nat.reduceLT, Nat.reduceLeDiff, Nat.reduceMul, Nat.reduceSub, BEq.rfl, beq_self_eq_true, Int.reduceToNat]; first | done | trivial | (and_intros <;> first | rfl | trivial | omega | (rw [IntKind.wrap_i64]; omega) | (simp only [ln]; done) | (simp only [ob, ln, bdv, sv] at *; first | omega | grind) | (left; intro j hj; simp only [pw, Bool.cond_eq_ite, Bool.and_eq_true, decide_eq_true_eq]; (repeat' split) <;> simp [putL, NoBorL, NoBor]) | (intro j hj; simp only [pw, Bool.cond_eq_ite, Bool.and_eq_true, decide_eq_true_eq]; (try rw [subL_getD _ _ _ _ (by first | assumption | omega)]); (try rw [clearL_getD _ _ _ _ (by first | omega | (simp only [ob, ln, bdv] at *; omega))]); (repeat' split) <;> first | rfl | omega | exact simOL_refl _ | (simp_all; done) | (simp_all; rfl) | (simp_all; omega) | (simp_all; exact simOL_refl _) | (simp [putL, NoBorL, NoBor]; done))))

def D_spec_OpenFaults : DF
  | [x0] => some (.tup [ownL 70 4 eFault ((spec_OpenFaults (rdL dFault x0)).1), .int .i64 ((spec_OpenFaults (rdL dFault x0)).2)], false, [wL 4 eFault dFault x0, (rdL dFault x0).length < 1099511627776])
  | _ => none
def Dz_spec_OpenFaults : DF
  | [x0] => some (.tup [ownL 70 4 eFault ((spec_OpenFaults (rdL dFault x0)).1), .int .i64 ((spec_OpenFaults (rdL dFault x0)).2)], true, [wL 4 eFault dFault x0, (rdL dFault x0).length < 1099511627776])
  | _ => none
theorem D_spec_OpenFaults_ok : OkD Try.prog 42 D_spec_OpenFaults := by
  intro xs r z ob h ho
  unfold D_spec_OpenFaults at h
  split at h
  · simp only [Option.some.injEq, Prod.mk.injEq] at h
    obtain ⟨rfl, rfl, rfl⟩ := h
    obtain ⟨h0, hb0, _⟩ := ho
    exact Den.sim (spec_OpenFaults_den _ hb0) (simOL_cons (wL_sim h0).1 <| trivial) (noIdL_cons (wL_sim h0).2 <| rfl) rfl
  · cases h

theorem Dz_spec_OpenFaults_ok : OkD Try.prog 42 Dz_spec_OpenFaults := by
  intro xs r z ob h ho
  unfold Dz_spec_OpenFaults at h
  split at h
  · simp only [Option.some.injEq, Prod.mk.injEq] at h
    obtain ⟨rfl, rfl, rfl⟩ := h
    obtain ⟨h0, hb0, _⟩ := ho
    exact Den.sim (spec_OpenFaults_den _ hb0) (simOL_cons (wL_sim h0).1 <| trivial) (noIdL_cons (wL_sim h0).2 <| rfl) rfl
  · cases h
end Go.Ab

namespace Go.Ab
open Go Go.Proofs
/-- a loop that gathers elements -/
theorem loopR_filter {ρ α : Type} [Inhabited α] (p : α → Bool) (a : List α) {b : Nat → List α → Except ρ (List α)}
    (hb : ∀ i s, b i s = bif p (a.getD i default) then .ok (s ++ [a.getD i default]) else .ok s) : loopR b (a.length - 0) 0 [] = .ok (a.filter p) := by
  obtain ⟨t, h1, h2⟩ := loopR_total (b := b) (fun i s => s = (a.take i).filter p) (k := a.length - 0) (i := 0) (s := []) (by simp) (by
    intro j u _ hj h
    rw [hb]
    refine ⟨(a.take (j + 1)).filter p, ?_, rfl⟩
    rw [take_succ_getD a j (by omega), List.filter_append, h]
    cases hp : p (a.getD j default) <;> simp [List.filter_cons, hp, -List.getD_eq_getElem?_getD])
  rw [h1, h2]
  congr 1
  rw [List.take_of_length_le (by omega)]
theorem spec_OpenFaults_eq (a : List Fault) : spec_OpenFaults a = bif !(spec_l20Ok a) then ([], 1) else (a.filter (fun f => f.Until == -1), 0) := by
  unfold spec_OpenFaults
  rw [loopR_filter (fun f : Fault => f.Until == -1) a (b := spec_OpenFaults_b1 a) (fun i s => rfl)]
theorem spec_OpenFaults_len (a : List Fault) : (spec_OpenFaults a).1.length ≤ a.length := by
  rw [spec_OpenFaults_eq]
  cases spec_l20Ok a with
  | false => simp
  | true => exact List.length_filter_le _ _
end Go.Ab

namespace Go.Ab
open Go Go.Proofs
theorem spec_l28Of_DD : DOk Try.prog (DD []) := DD_nil _
def spec_l28Of_b1 (a0 : (List Duty)) (a1 : (List UInt8)) (i1 : Nat) (s1 : List Duty) : Except ((List Duty)) (List Duty) :=
  (bif (((a0.getD i1 default).Keeper) == a1) then .ok (s1 ++ [(a0.getD i1 default)]) else .ok s1)

def spec_l28Of (a0 : (List Duty)) (a1 : (List UInt8)) : (List Duty) :=
  (match loopR (spec_l28Of_b1 a0 a1) (a0.length - 0) 0 ([] : List Duty) with | .error e => e | .ok s1 => s1)

theorem spec_l28Of_den (a0 : (List Duty)) (a1 : (List UInt8)) (hb0 : a0.length < 1099511627776) (hb1 : ∀ v ∈ a0, bdDuty v) (hb2 : a1.length < 1099511627776) : Den Try.prog 92 [encL 3 eDuty a0, .str a1] (ownL 103 3 eDuty (spec_l28Of a0 a1)) := by
  generalize hR : spec_l28Of a0 a1 = r
  unfold spec_l28Of at hR
  refine den_intro G_ok Try.func92 (by kernel_rfl) rfl Try.ntmps92 (by rw [Try.results92]) (by simp) rfl ?_
  intro c hc hk
  simp only [pars, Nat.zero_add]
  refine AWP.seq ?_
  refine AWP.regS G_ok spec_l28Of_DD hc (by kernel_rfl) (fun K hK => ?_); simp only [ea, gv, sv, reduceCtorEq, reduceIte, Nat.reduceBEq, Nat.reduceAdd, Nat.reduceEqDiff, Nat.reduceLT, Nat.reduceLeDiff, Nat.reduceMul, Nat.reduceSub, BEq.rfl, beq_self_eq_true, Int.reduceToNat]
  first | refine hK _ ?_ | refine ⟨by (first | trivial | omega | (simp only [ob, ln, bdv, sv] at *; omega) | ((try clear hK K); (repeat' first | apply And.intro | intro _) <;> first | trivial | omega | assumption | solve_by_elim | (apply bd_getD <;> first | assumption | decide) | (apply bd_subL <;> first | assumption | decide) | (simp only [ob, ln, bdv, sv] at *; first | omega | assumption | (simp_all; done) | grind))), hK _ ?_⟩
  clear hK K
  refine AWP.seq ?_
  refine AWP.regS G_ok spec_l28Of_DD hc (by kernel_rfl) (fun K hK => ?_); simp only [ea, gv, sv, reduceCtorEq, reduceIte, Nat.reduceBEq, Nat.reduceAdd, Nat.reduceEqDiff, Nat.reduceLT, Nat.reduceLeDiff, Nat.reduceMul, Nat.reduceSub, BEq.rfl, beq_self_eq_true, Int.reduceToNat]
  first | refine hK _ ?_ | refine ⟨by (first | trivial | omega | (simp only [ob, ln, bdv, sv] at *; omega) | ((try clear hK K); (repeat' first | apply And.intro | intro _) <;> first | trivial | omega | assumption | solve_by_elim | (apply bd_getD <;> first | assumption | decide) | (apply bd_subL <;> first | assumption | decide) | (simp only [ob, ln, bdv, sv] at *; first | omega | assumption | (simp_all; done) | grind))), hK _ ?_⟩
  clear hK K
  refine AWP.seq ?_
  refine AWP.seq ?_
  refine AWP.regS G_ok spec_l28Of_DD hc (by kernel_rfl) (fun K hK => ?_); simp only [ea, gv, sv, reduceCtorEq, reduceIte, Nat.reduceBEq, Nat.reduceAdd, Nat.reduceEqDiff, Nat.reduceLT, Nat.reduceLeDiff, Nat.reduceMul, Nat.reduceSub, BEq.rfl, beq_self_eq_true, Int.reduceToNat]
  first | refine hK _ ?_ | refine ⟨by (first | trivial | omega | (simp only [ob, ln, bdv, sv] at *; omega) | ((try clear hK K); (repeat' first | apply And.intro | intro _) <;> first | trivial | omega | assumption | solve_by_elim | (apply bd_getD <;> first | assumption | decide) | (apply bd_subL <;> first | assumption | decide) | (simp only [ob, ln, bdv, sv] at *; first | omega | assumption | (simp_all; done) | grind))), hK _ ?_⟩
  clear hK K
  refine AWP.block ?_
  generalize hz1 : loopR (spec_l28Of_b1 a0 a1) (a0.length - 0) 0 ([] : List Duty) = z1 at hR
  refine AWP.range (spec_l28Of_b1 a0 a1) (fun i1 s1 => ⟨[(0, encL 3 eDuty a0), (1, .str a1), (5, .ref 0 3 0 s1.length), (6, .int .i64 (i1 : Int))], [.arr 103 3 s1.length (fun j => eDuty (s1.getD j default))]⟩) (fun i1 s1 => s1.length ≤ ([] : List Duty).length + 1 * i1) (a0.length) 0 ([] : List Duty) [0] hz1 (by (first | trivial | omega | (simp only [ob, ln, bdv, sv] at *; omega) | ((try clear hK K); (repeat' first | apply And.intro | intro _) <;> first | trivial | omega | assumption | solve_by_elim | (apply bd_getD <;> first | assumption | decide) | (apply bd_subL <;> first | assumption | decide) | (simp only [ob, ln, bdv, sv] at *; first | omega | assumption | (simp_all; done) | grind)))) (by (first | trivial | (and_intros <;> simp only [ln] <;> omega) | (and_intros <;> simp only [ob, ln] at * <;> omega) | (and_intros <;> first | trivial | omega | assumption | (apply bd_set <;> first | assumption | (apply bd_getD <;> first | assumption | decide)) | (apply bd_app <;> first | assumption | (apply bd_getD <;> first | assumption | decide)) | (simp only [ob, ln, bdv, sv] at *; omega) | (simp; done)))) (by (simp only [si, ea, gv, sv, hk, reduceCtorEq, reduceIte, Nat.reduceBEq, Nat.reduceAdd, Nat.reduceEqDiff, Nat.reduceLT, Nat.reduceLeDiff, Nat.reduceMul, Nat.reduceSub, BEq.rfl, beq_self_eq_true, Int.reduceToNat]; first | done | trivial | (and_intros <;> first | rfl | trivial | omega | (rw [IntKind.wrap_i64]; omega) | (simp only [ln]; done) | (simp only [ob, ln, bdv, sv] at *; first | omega | grind) | (left; intro j hj; simp only [pw, Bool.cond_eq_ite, Bool.and_eq_true, decide_eq_true_eq]; (repeat' split) <;> simp [putL, NoBorL, NoBor]) | (intro j hj; simp only [pw, Bool.cond_eq_ite, Bool.and_eq_true, decide_eq_true_eq]; (try rw [subL_getD _ _ _ _ (by first | assumption | omega)]); (try rw [clearL_getD _ _ _ _ (by first | omega | (simp only [ob, ln, bdv] at *; omega))]); (repeat' split) <;> first | rfl | omega | exact simOL_refl _ | (simp_all; done) | (simp_all; rfl) | (simp_all; omega) | (simp_all; exact simOL_refl _) | (simp [putL, NoBorL, NoBor]; done))))) ?_
  clear hz1
  intro i1 s1 hi1 hW1 hz1
  refine AWP.seq ?_
  refine AWP.seq ?_
  refine AWP.regS G_ok spec_l28Of_DD hc (by kernel_rfl) (fun K hK => ?_); simp only [ea, gv, sv, reduceCtorEq, reduceIte, Nat.reduceBEq, Nat.reduceAdd, Nat.reduceEqDiff, Nat.reduceLT, Nat.reduceLeDiff, Nat.reduceMul, Nat.reduceSub, BEq.rfl, beq_self_eq_true, Int.reduceToNat]
  first | refine hK _ ?_ | refine ⟨by (first | trivial | omega | (simp only [ob, ln, bdv, sv] at *; omega) | ((try clear hK K); (repeat' first | apply And.intro | intro _) <;> first | trivial | omega | assumption | solve_by_elim | (apply bd_getD <;> first | assumption | decide) | (apply bd_subL <;> first | assumption | decide) | (simp only [ob, ln, bdv, sv] at *; first | omega | assumption | (simp_all; done) | grind))), hK _ ?_⟩
  clear hK K
  refine AWP.cond rfl (fun hb => ?_) (fun hb => ?_)
  · have hlt1 : i1 < a0.length := by (first | trivial | omega | (simp only [ob, ln, bdv, sv] at *; omega) | ((try clear hK K); (repeat' first | apply And.intro | intro _) <;> first | trivial | omega | assumption | solve_by_elim | (apply bd_getD <;> first | assumption | decide) | (apply bd_subL <;> first | assumption | decide) | (simp only [ob, ln, bdv, sv] at *; first | omega | assumption | (simp_all; done) | grind)))
    rw [loopR_lt hlt1] at hz1; simp only [spec_l28Of_b1] at hz1
    refine AWP.skip ?_
    refine AWP.seq ?_
    refine AWP.block ?_
    refine AWP.seq ?_
    refine AWP.regS G_ok spec_l28Of_DD hc (by kernel_rfl) (fun K hK => ?_); simp only [ea, gv, sv, reduceCtorEq, reduceIte, Nat.reduceBEq, Nat.reduceAdd, Nat.reduceEqDiff, Nat.reduceLT, Nat.reduceLeDiff, Nat.reduceMul, Nat.reduceSub, BEq.rfl, beq_self_eq_true, Int.reduceToNat]
    first | refine hK _ ?_ | refine ⟨by (first | trivial | omega | (simp only [ob, ln, bdv, sv] at *; omega) | ((try clear hK K); (repeat' first | apply And.intro | intro _) <;> first | trivial | omega | assumption | solve_by_elim | (apply bd_getD <;> first | assumption | decide) | (apply bd_subL <;> first | assumption | decide) | (simp only [ob, ln, bdv, sv] at *; first | omega | assumption | (simp_all; done) | grind))), hK _ ?_⟩
    clear hK K
    refine AWP.cond rfl (fun hb => ?_) (fun hb => ?_)
    · first | simp only [hb, cond_true] at hz1 | (simp only [*] at hb; simp only [hb, cond_true] at hz1)
      refine AWP.regS G_ok spec_l28Of_DD hc (by kernel_rfl) (fun K hK => ?_); simp only [ea, gv, sv, reduceCtorEq, reduceIte, Nat.reduceBEq, Nat.reduceAdd, Nat.reduceEqDiff, Nat.reduceLT, Nat.reduceLeDiff, Nat.reduceMul, Nat.reduceSub, BEq.rfl, beq_self_eq_true, Int.reduceToNat]
      first | refine hK _ ?_ | refine ⟨by (first | trivial | omega | (simp only [ob, ln, bdv, sv] at *; omega) | ((try clear hK K); (repeat' first | apply And.intro | intro _) <;> first | trivial | omega | assumption | solve_by_elim | (apply bd_getD <;> first | assumption | decide) | (apply bd_subL <;> first | assumption | decide) | (simp only [ob, ln, bdv, sv] at *; first | omega | assumption | (simp_all; done) | grind))), hK _ ?_⟩
      clear hK K
      refine AWP.regS G_ok spec_l28Of_DD hc (by kernel_rfl) (fun K hK => ?_); simp only [ea, gv, sv, reduceCtorEq, reduceIte, Nat.reduceBEq, Nat.reduceAdd, Nat.reduceEqDiff, Nat.reduceLT, Nat.reduceLeDiff, Nat.reduceMul, Nat.reduceSub, BEq.rfl, beq_self_eq_true, Int.reduceToNat]
      first | refine hK _ ?_ | refine ⟨by (first | trivial | omega | (simp only [ob, ln, bdv, sv] at *; omega) | ((try clear hK K); (repeat' first | apply And.intro | intro _) <;> first | trivial | omega | assumption | solve_by_elim | (apply bd_getD <;> first | assumption | decide) | (apply bd_subL <;> first | assumption | decide) | (simp only [ob, ln, bdv, sv] at *; first | omega | assumption | (simp_all; done) | grind))), hK _ ?_⟩
      clear hK K
      exact ⟨_, [2], hlt1, by (first | trivial | (and_intros <;> simp only [ln] <;> omega) | (and_intros <;> simp only [ob, ln] at * <;> omega) | (and_intros <;> first | trivial | omega | assumption | (apply bd_set <;> first | assumption | (apply bd_getD <;> first | assumption | decide)) | (apply bd_app <;> first | assumption | (apply bd_getD <;> first | assumption | decide)) | (simp only [ob, ln, bdv, sv] at *; omega) | (simp; done))), hz1, by (simp only [si, ea, gv, sv, hk, reduceCtorEq, reduceIte, Nat.reduceBEq, Nat.reduceAdd, Nat.reduceEqDiff, Nat.reduceLT, Nat.reduceLeDiff, Nat.reduceMul, Nat.reduceSub, BEq.rfl, beq_self_eq_true, Int.reduceToNat]; first | done | trivial | (and_intros <;> first | rfl | trivial | omega | (rw [IntKind.wrap_i64]; omega) | (simp only [ln]; done) | (simp only [ob, ln, bdv, sv] at *; first | omega | grind) | (left; intro j hj; simp only [pw, Bool.cond_eq_ite, Bool.and_eq_true, decide_eq_true_eq]; (repeat' split) <;> simp [putL, NoBorL, NoBor]) | (intro j hj; simp only [pw, Bool.cond_eq_ite, Bool.and_eq_true, decide_eq_true_eq]; (try rw [subL_getD _ _ _ _ (by first | assumption | omega)]); (try rw [clearL_getD _ _ _ _ (by first | omega | (simp only [ob, ln, bdv] at *; omega))]); (repeat' split) <;> first | rfl | omega | exact simOL_refl _ | (simp_all; done) | (simp_all; rfl) | (simp_all; omega) | (simp_all; exact simOL_refl _) | (simp [putL, NoBorL, NoBor]; done))))⟩
    · first | simp only [hb, cond_false] at hz1 | (simp only [*] at hb; simp only [hb, cond_false] at hz1)
      refine AWP.skip ?_
      refine AWP.regS G_ok spec_l28Of_DD hc (by kernel_rfl) (fun K hK => ?_); simp only [ea, gv, sv, reduceCtorEq, reduceIte, Nat.reduceBEq, Nat.reduceAdd, Nat.reduceEqDiff, Nat.reduceLT, Nat.reduceLeDiff, Nat.reduceMul, Nat.reduceSub, BEq.rfl, beq_self_eq_true, Int.reduceToNat]
      first | refine hK _ ?_ | refine ⟨by (first | trivial | omega | (simp only [ob, ln, bdv, sv] at *; omega) | ((try clear hK K); (repeat' first | apply And.intro | intro _) <;> first | trivial | omega | assumption | solve_by_elim | (apply bd_getD <;> first | assumption | decide) | (apply bd_subL <;> first | assumption | decide) | (simp only [ob, ln, bdv, sv] at *; first | omega | assumption | (simp_all; done) | grind))), hK _ ?_⟩
      clear hK K
      exact ⟨_, [0], hlt1, by (first | trivial | (and_intros <;> simp only [ln] <;> omega) | (and_intros <;> simp only [ob, ln] at * <;> omega) | (and_intros <;> first | trivial | omega | assumption | (apply bd_set <;> first | assumption | (apply bd_getD <;> first | assumption | decide)) | (apply bd_app <;> first | assumption | (apply bd_getD <;> first | assumption | decide)) | (simp only [ob, ln, bdv, sv] at *; omega) | (simp; done))), hz1, by (simp only [si, ea, gv, sv, hk, reduceCtorEq, reduceIte, Nat.reduceBEq, Nat.reduceAdd, Nat.reduceEqDiff, Nat.reduceLT, Nat.reduceLeDiff, Nat.reduceMul, Nat.reduceSub, BEq.rfl, beq_self_eq_true, Int.reduceToNat]; first | done | trivial | (and_intros <;> first | rfl | trivial | omega | (rw [IntKind.wrap_i64]; omega) | (simp only [ln]; done) | (simp only [ob, ln, bdv, sv] at *; first | omega | grind) | (left; intro j hj; simp only [pw, Bool.cond_eq_ite, Bool.and_eq_true, decide_eq_true_eq]; (repeat' split) <;> simp [putL, NoBorL, NoBor]) | (intro j hj; simp only [pw, Bool.cond_eq_ite, Bool.and_eq_true, decide_eq_true_eq]; (try rw [subL_getD _ _ _ _ (by first | assumption | omega)]); (try rw [clearL_getD _ _ _ _ (by first | omega | (simp only [ob, ln, bdv] at *; omega))]); (repeat' split) <;> first | rfl | omega | exact simOL_refl _ | (simp_all; done) | (simp_all; rfl) | (simp_all; omega) | (simp_all; exact simOL_refl _) | (simp [putL, NoBorL, NoBor]; done))))⟩
  · obtain rfl : i1 = a0.length := by (first | trivial | omega | (simp only [ob, ln, bdv, sv] at *; omega) | ((try clear hK K); (repeat' first | apply And.intro | intro _) <;> first | trivial | omega | assumption | solve_by_elim | (apply bd_getD <;> first | assumption | decide) | (apply bd_subL <;> first | assumption | decide) | (simp only [ob, ln, bdv, sv] at *; first | omega | assumption | (simp_all; done) | grind)))
    rw [loopR_ge (Nat.le_refl _)] at hz1; subst hz1; dsimp only at hR
    refine AWP.exit ?_; refine exitTo_here ?_
    refine AWP.seq ?_
    refine AWP.regS G_ok spec_l28Of_DD hc (by kernel_rfl) (fun K hK => ?_); simp only [ea, gv, sv, reduceCtorEq, reduceIte, Nat.reduceBEq, Nat.reduceAdd, Nat.reduceEqDiff, Nat.reduceLT, Nat.reduceLeDiff, Nat.reduceMul, Nat.reduceSub, BEq.rfl, beq_self_eq_true, Int.reduceToNat]
    first | refine hK _ ?_ | refine ⟨by (first | trivial | omega | (simp only [ob, ln, bdv, sv] at *; omega) | ((try clear hK K); (repeat' first | apply And.intro | intro _) <;> first | trivial | omega | assumption | solve_by_elim | (apply bd_getD <;> first | assumption | decide) | (apply bd_subL <;> first | assumption | decide) | (simp only [ob, ln, bdv, sv] at *; first | omega | assumption | (simp_all; done) | grind))), hK _ ?_⟩
    clear hK K
    refine AWP.ret ?_
    subst hR
    (simp only [en, si, ea, gv, sv, hk, reduceCtorEq, reduceIte, Nat.reduceBEq, Nat.reduceAdd, Nat.reduceEqDiff, Nat.reduceLT, Nat.reduceLeDiff, Nat.reduceMul, Nat.reduceSub, BEq.rfl, beq_self_eq_true, Int.reduceToNat]; first | done | trivial | (and_intros <;> first | rfl | trivial | omega | (rw [IntKind.wrap_i64]; omega) | (simp only [ln]; done) | (simp only [ob, ln, bdv, sv] at *; first | omega | grind) | (left; intro j hj; simp only [pw, Bool.cond_eq_ite, Bool.and_eq_true, decide_eq_true_eq]; (repeat' split) <;> simp [putL, NoBorL, NoBor]) | (intro j hj; simp only [pw, Bool.cond_eq_ite, Bool.and_eq_true, decide_eq_true_eq]; (try rw [subL_getD _ _ _ _ (by first | assumption | omega)]); (try rw [clearL_getD _ _ _ _ (by first | omega | (simp only [ob, ln, bdv] at *; omega))]); (repeat' split) <;> first | rfl | omega | exact simOL_refl _ | (simp_all; done) | (simp_all; rfl) | (simp_all; omega) | (simp_all; exact simOL_refl _) | (simp [putL, NoBorL, NoBor]; done))))

def D_spec_l28Of : DF
  | [x0, x1] => some (ownL 103 3 eDuty (spec_l28Of (rdL dDuty x0) (rdS x1)), false, [wL 3 eDuty dDuty x0, wS x1, (rdL dDuty x0).length < 1099511627776, ∀ v ∈ (rdL dDuty x0), bdDuty v, (rdS x1).length < 1099511627776])
  | _ => none
def Dz_spec_l28Of : DF
  | [x0, x1] => some (ownL 103 3 eDuty (spec_l28Of (rdL dDuty x0) (rdS x1)), true, [wL 3 eDuty dDuty x0, wS x1, (rdL dDuty x0).length < 1099511627776, ∀ v ∈ (rdL dDuty x0), bdDuty v, (rdS x1).length < 1099511627776])
  | _ => none
theorem D_spec_l28Of_ok : OkD Try.prog 92 D_spec_l28Of := by
  intro xs r z ob h ho
  unfold D_spec_l28Of at h
  split at h
  · simp only [Option.some.injEq, Prod.mk.injEq] at h
    obtain ⟨rfl, rfl, rfl⟩ := h
    obtain ⟨h0, h1, hb0, hb1, hb2, _⟩ := ho
    exact Den.sim (spec_l28Of_den _ _ hb0 hb1 hb2) (simOL_cons (wL_sim h0).1 <| simOL_cons (wS_sim h1).1 <| trivial) (noIdL_cons (wL_sim h0).2 <| noIdL_cons (wS_sim h1).2 <| rfl) rfl
  · cases h

theorem Dz_spec_l28Of_ok : OkD Try.prog 92 Dz_spec_l28Of := by
  intro xs r z ob h ho
  unfold Dz_spec_l28Of at h
  split at h
  · simp only [Option.some.injEq, Prod.mk.injEq] at h
    obtain ⟨rfl, rfl, rfl⟩ := h
    obtain ⟨h0, h1, hb0, hb1, hb2, _⟩ := ho
    exact Den.sim (spec_l28Of_den _ _ hb0 hb1 hb2) (simOL_cons (wL_sim h0).1 <| simOL_cons (wS_sim h1).1 <| trivial) (noIdL_cons (wL_sim h0).2 <| noIdL_cons (wS_sim h1).2 <| rfl) rfl
  · cases h
end Go.Ab

namespace Go.Ab
open Go Go.Proofs
theorem spec_l00Min_DD : DOk Try.prog (DD []) := DD_nil _
def spec_l00Min (a0 : Int) (a1 : Int) : Int :=
  (bif decide (a0 < a1) then a0 else a1)

theorem spec_l00Min_den (a0 : Int) (a1 : Int)  : Den Try.prog 93 [.int .i64 a0, .int .i64 a1] (.int .i64 (spec_l00Min a0 a1)) := by
  generalize hR : spec_l00Min a0 a1 = r
  unfold spec_l00Min at hR
  refine den_intro G_ok Try.func93 (by kernel_rfl) rfl Try.ntmps93 (by rw [Try.results93]) (by simp) rfl ?_
  intro c hc hk
  simp only [pars, Nat.zero_add]
  refine AWP.seq ?_
  refine AWP.regS G_ok spec_l00Min_DD hc (by kernel_rfl) (fun K hK => ?_); simp only [ea, gv, sv, reduceCtorEq, reduceIte, Nat.reduceBEq, Nat.reduceAdd, Nat.reduceEqDiff, Nat.reduceLT, Nat.reduceLeDiff, Nat.reduceMul, Nat.reduceSub, BEq.rfl, beq_self_eq_true, Int.reduceToNat]
  first | refine hK _ ?_ | refine ⟨by (first | trivial | omega | (simp only [ob, ln, bdv, sv] at *; omega) | ((try clear hK K); (repeat' first | apply And.intro | intro _) <;> first | trivial | omega | assumption | solve_by_elim | (apply bd_getD <;> first | assumption | decide) | (apply bd_subL <;> first | assumption | decide) | (simp only [ob, ln, bdv, sv] at *; first | omega | assumption | (simp_all; done) | grind))), hK _ ?_⟩
  clear hK K
  refine AWP.seq ?_
  refine AWP.seq ?_
  refine AWP.regS G_ok spec_l00Min_DD hc (by kernel_rfl) (fun K hK => ?_); simp only [ea, gv, sv, reduceCtorEq, reduceIte, Nat.reduceBEq, Nat.reduceAdd, Nat.reduceEqDiff, Nat.reduceLT, Nat.reduceLeDiff, Nat.reduceMul, Nat.reduceSub, BEq.rfl, beq_self_eq_true, Int.reduceToNat]
  first | refine hK _ ?_ | refine ⟨by (first | trivial | omega | (simp only [ob, ln, bdv, sv] at *; omega) | ((try clear hK K); (repeat' first | apply And.intro | intro _) <;> first | trivial | omega | assumption | solve_by_elim | (apply bd_getD <;> first | assumption | decide) | (apply bd_subL <;> first | assumption | decide) | (simp only [ob, ln, bdv, sv] at *; first | omega | assumption | (simp_all; done) | grind))), hK _ ?_⟩
  clear hK K
  refine AWP.cond rfl (fun hb => ?_) (fun hb => ?_)
  · first | simp only [hb, cond_true] at hR | (simp only [*] at hb; simp only [hb, cond_true] at hR)
    refine AWP.seq ?_
    refine AWP.regS G_ok spec_l00Min_DD hc (by kernel_rfl) (fun K hK => ?_); simp only [ea, gv, sv, reduceCtorEq, reduceIte, Nat.reduceBEq, Nat.reduceAdd, Nat.reduceEqDiff, Nat.reduceLT, Nat.reduceLeDiff, Nat.reduceMul, Nat.reduceSub, BEq.rfl, beq_self_eq_true, Int.reduceToNat]
    first | refine hK _ ?_ | refine ⟨by (first | trivial | omega | (simp only [ob, ln, bdv, sv] at *; omega) | ((try clear hK K); (repeat' first | apply And.intro | intro _) <;> first | trivial | omega | assumption | solve_by_elim | (apply bd_getD <;> first | assumption | decide) | (apply bd_subL <;> first | assumption | decide) | (simp only [ob, ln, bdv, sv] at *; first | omega | assumption | (simp_all; done) | grind))), hK _ ?_⟩
    clear hK K
    refine AWP.ret ?_
    subst hR
    (simp only [en, si, ea, gv, sv, hk, reduceCtorEq, reduceIte, Nat.reduceBEq, Nat.reduceAdd, Nat.reduceEqDiff, Nat.reduceLT, Nat.reduceLeDiff, Nat.reduceMul, Nat.reduceSub, BEq.rfl, beq_self_eq_true, Int.reduceToNat]; first | done | trivial | (and_intros <;> first | rfl | trivial | omega | (rw [IntKind.wrap_i64]; omega) | (simp only [ln]; done) | (simp only [ob, ln, bdv, sv] at *; first | omega | grind) | (left; intro j hj; simp only [pw, Bool.cond_eq_ite, Bool.and_eq_true, decide_eq_true_eq]; (repeat' split) <;> simp [putL, NoBorL, NoBor]) | (intro j hj; simp only [pw, Bool.cond_eq_ite, Bool.and_eq_true, decide_eq_true_eq]; (try rw [subL_getD _ _ _ _ (by first | assumption | omega)]); (try rw [clearL_getD _ _ _ _ (by first | omega | (simp only [ob, ln, bdv] at *; omega))]); (repeat' split) <;> first | rfl | omega | exact simOL_refl _ | (simp_all; done) | (simp_all; rfl) | (simp_all; omega) | (simp_all; exact simOL_refl _) | (simp [putL, NoBorL, NoBor]; done))))
  · first | simp only [hb, cond_false] at hR | (simp only [*] at hb; simp only [hb, cond_false] at hR)
    refine AWP.skip ?_
    refine AWP.seq ?_
    refine AWP.regS G_ok spec_l00Min_DD hc (by kernel_rfl) (fun K hK => ?_); simp only [ea, gv, sv, reduceCtorEq, reduceIte, Nat.reduceBEq, Nat.reduceAdd, Nat.reduceEqDiff, Nat.reduceLT, Nat.reduceLeDiff, Nat.reduceMul, Nat.reduceSub, BEq.rfl, beq_self_eq_true, Int.reduceToNat]
    first | refine hK _ ?_ | refine ⟨by (first | trivial | omega | (simp only [ob, ln, bdv, sv] at *; omega) | ((try clear hK K); (repeat' first | apply And.intro | intro _) <;> first | trivial | omega | assumption | solve_by_elim | (apply bd_getD <;> first | assumption | decide) | (apply bd_subL <;> first | assumption | decide) | (simp only [ob, ln, bdv, sv] at *; first | omega | assumption | (simp_all; done) | grind))), hK _ ?_⟩
    clear hK K
    refine AWP.ret ?_
    subst hR
    (simp only [en, si, ea, gv, sv, hk, reduceCtorEq, reduceIte, Nat.reduceBEq, Nat.reduceAdd, Nat.reduceEqDiff, Nat.reduceLT, Nat.reduceLeDiff, Nat.reduceMul, Nat.reduceSub, BEq.rfl, beq_self_eq_true, Int.reduceToNat]; first | done | trivial | (and_intros <;> first | rfl | trivial | omega | (rw [IntKind.wrap_i64]; omega) | (simp only [ln]; done) | (simp only [ob, ln, bdv, sv] at *; first | omega | grind) | (left; intro j hj; simp only [pw, Bool.cond_eq_ite, Bool.and_eq_true, decide_eq_true_eq]; (repeat' split) <;> simp [putL, NoBorL, NoBor]) | (intro j hj; simp only [pw, Bool.cond_eq_ite, Bool.and_eq_true, decide_eq_true_eq]; (try rw [subL_getD _ _ _ _ (by first | assumption | omega)]); (try rw [clearL_getD _ _ _ _ (by first | omega | (simp only [ob, ln, bdv] at *; omega))]); (repeat' split) <;> first | rfl | omega | exact simOL_refl _ | (simp_all; done) | (simp_all; rfl) | (simp_all; omega) | (simp_all; exact simOL_refl _) | (simp [putL, NoBorL, NoBor]; done))))

def D_spec_l00Min : DF
  | [x0, x1] => some (.int .i64 (spec_l00Min (rdI x0) (rdI x1)), false, [wI .i64 x0, wI .i64 x1])
  | _ => none
theorem D_spec_l00Min_ok : OkD Try.prog 93 D_spec_l00Min := by
  intro xs r z ob h ho
  unfold D_spec_l00Min at h
  split at h
  · simp only [Option.some.injEq, Prod.mk.injEq] at h
    obtain ⟨rfl, rfl, rfl⟩ := h
    obtain ⟨h0, h1, _⟩ := ho
    exact Den.sim (spec_l00Min_den _ _ ) (simOL_cons (wI_sim h0).1 <| simOL_cons (wI_sim h1).1 <| trivial) (noIdL_cons (wI_sim h0).2 <| noIdL_cons (wI_sim h1).2 <| rfl) rfl
  · cases h
end Go.Ab

namespace Go.Ab
open Go Go.Proofs
theorem spec_l28Of_len (a : List Duty) (k : List UInt8) : (spec_l28Of a k).length ≤ a.length := by
  unfold spec_l28Of
  obtain ⟨t, h1, h2⟩ := loopR_total (b := spec_l28Of_b1 a k) (fun j s => s.length ≤ j) (k := a.length - 0) (i := 0) (s := []) (by simp) (by
    intro j u _ _ h
    simp only [spec_l28Of_b1]
    cases hq : (a.getD j default).Keeper == k with
    | true => exact ⟨_, rfl, by simpa using h⟩
    | false => exact ⟨_, rfl, by omega⟩)
  rw [h1]
  simpa using h2
end Go.Ab

namespace Go.Ab
open Go Go.Proofs
theorem spec_LeastRest_DD : DOk Try.prog (DD [(76, dP D_spec_l28Ok), (92, dP D_spec_l28Of), (93, dP D_spec_l00Min)]) := DD_cons D_spec_l28Ok_ok.e <| DD_cons D_spec_l28Of_ok.e <| DD_cons D_spec_l00Min_ok.e <| DD_nil _
def spec_LeastRest_b1 (a0 : (List Duty)) (a1 : (List UInt8)) (i1 : Nat) (s1 : Int) : Except ((Int × Int)) (Int) :=
  .ok (spec_l00Min s1 (IntKind.wrap .i64 ((((spec_l28Of a0 a1).getD i1 default).From) - (((spec_l28Of a0 a1).getD ((IntKind.wrap .i64 ((i1 : Int) - 1)).toNat) default).Until))))

def spec_LeastRest (a0 : (List Duty)) (a1 : (List UInt8)) : (Int × Int) :=
  (bif (!(spec_l28Ok a0)) then (0, 1) else (bif decide (((spec_l28Of a0 a1).length : Int) < 2) then (0, 6) else (match loopR (spec_LeastRest_b1 a0 a1) (((spec_l28Of a0 a1).length) - 2) 2 (IntKind.wrap .i64 ((((spec_l28Of a0 a1).getD 1 default).From) - (((spec_l28Of a0 a1).getD 0 default).Until))) with | .error e => e | .ok s1 => (s1, 0))))

theorem spec_LeastRest_den (a0 : (List Duty)) (a1 : (List UInt8)) (hb0 : a0.length < 1099511627776) (hb1 : ∀ v ∈ a0, bdDuty v) (hb2 : a1.length < 1099511627776) : Den Try.prog 48 [encL 3 eDuty a0, .str a1] (.tup [.int .i64 ((spec_LeastRest a0 a1).1), .int .i64 ((spec_LeastRest a0 a1).2)]) := by
  generalize hR : spec_LeastRest a0 a1 = r
  unfold spec_LeastRest at hR
  refine den_intro G_ok Try.func48 (by kernel_rfl) rfl Try.ntmps48 (by rw [Try.results48]) (by simp) rfl ?_
  intro c hc hk
  simp only [pars, Nat.zero_add]
  refine AWP.seq ?_
  refine AWP.regS G_ok spec_LeastRest_DD hc (by kernel_rfl) (fun K hK => ?_); simp only [ea, gv, sv, D_spec_l28Ok, D_spec_l28Of, D_spec_l00Min, reduceCtorEq, reduceIte, Nat.reduceBEq, Nat.reduceAdd, Nat.reduceEqDiff, Nat.reduceLT, Nat.reduceLeDiff, Nat.reduceMul, Nat.reduceSub, BEq.rfl, beq_self_eq_true, Int.reduceToNat]
  first | refine hK _ ?_ | refine ⟨by (first | trivial | omega | (simp only [ob, ln, bdv, sv] at *; omega) | ((try clear hK K); (repeat' first | apply And.intro | intro _) <;> first | trivial | omega | assumption | solve_by_elim | (apply bd_getD <;> first | assumption | decide) | (apply bd_subL <;> first | assumption | decide) | (simp only [ob, ln, bdv, sv] at *; first | omega | assumption | (simp_all; done) | grind [spec_l28Of_len]))), hK _ ?_⟩
  clear hK K
  refine AWP.seq ?_
  refine AWP.seq ?_
  refine AWP.regS G_ok spec_LeastRest_DD hc (by kernel_rfl) (fun K hK => ?_); simp only [ea, gv, sv, D_spec_l28Ok, D_spec_l28Of, D_spec_l00Min, reduceCtorEq, reduceIte, Nat.reduceBEq, Nat.reduceAdd, Nat.reduceEqDiff, Nat.reduceLT, Nat.reduceLeDiff, Nat.reduceMul, Nat.reduceSub, BEq.rfl, beq_self_eq_true, Int.reduceToNat]
  first | refine hK _ ?_ | refine ⟨by (first | trivial | omega | (simp only [ob, ln, bdv, sv] at *; omega) | ((try clear hK K); (repeat' first | apply And.intro | intro _) <;> first | trivial | omega | assumption | solve_by_elim | (apply bd_getD <;> first | assumption | decide) | (apply bd_subL <;> first | assumption | decide) | (simp only [ob, ln, bdv, sv] at *; first | omega | assumption | (simp_all; done) | grind [spec_l28Of_len]))), hK _ ?_⟩
  clear hK K
  refine AWP.cond rfl (fun hb => ?_) (fun hb => ?_)
  · first | simp only [hb, cond_true] at hR | (simp only [*] at hb; simp only [hb, cond_true] at hR)
    refine AWP.seq ?_
    refine AWP.regS G_ok spec_LeastRest_DD hc (by kernel_rfl) (fun K hK => ?_); simp only [ea, gv, sv, D_spec_l28Ok, D_spec_l28Of, D_spec_l00Min, reduceCtorEq, reduceIte, Nat.reduceBEq, Nat.reduceAdd, Nat.reduceEqDiff, Nat.reduceLT, Nat.reduceLeDiff, Nat.reduceMul, Nat.reduceSub, BEq.rfl, beq_self_eq_true, Int.reduceToNat]
    first | refine hK _ ?_ | refine ⟨by (first | trivial | omega | (simp only [ob, ln, bdv, sv] at *; omega) | ((try clear hK K); (repeat' first | apply And.intro | intro _) <;> first | trivial | omega | assumption | solve_by_elim | (apply bd_getD <;> first | assumption | decide) | (apply bd_subL <;> first | assumption | decide) | (simp only [ob, ln, bdv, sv] at *; first | omega | assumption | (simp_all; done) | grind [spec_l28Of_len]))), hK _ ?_⟩
    clear hK K
    refine AWP.ret ?_
    subst hR
    (simp only [en, si, ea, gv, sv, hk, reduceCtorEq, reduceIte, Nat.reduceBEq, Nat.reduceAdd, Nat.reduceEqDiff, Nat.reduceLT, Nat.reduceLeDiff, Nat.reduceMul, Nat.reduceSub, BEq.rfl, beq_self_eq_true, Int.reduceToNat]; first | done | trivial | (and_intros <;> first | rfl | trivial | omega | (rw [IntKind.wrap_i64]; omega) | (simp only [ln]; done) | (simp only [ob, ln, bdv, sv] at *; first | omega | grind [spec_l28Of_len]) | (left; intro j hj; simp only [pw, Bool.cond_eq_ite, Bool.and_eq_true, decide_eq_true_eq]; (repeat' split) <;> simp [putL, NoBorL, NoBor]) | (intro j hj; simp only [pw, Bool.cond_eq_ite, Bool.and_eq_true, decide_eq_true_eq]; (try rw [subL_getD _ _ _ _ (by first | assumption | omega)]); (try rw [clearL_getD _ _ _ _ (by first | omega | (simp only [ob, ln, bdv] at *; omega))]); (repeat' split) <;> first | rfl | omega | exact simOL_refl _ | (simp_all; done) | (simp_all; rfl) | (simp_all; omega) | (simp_all; exact simOL_refl _) | (simp [putL, NoBorL, NoBor]; done))))
  · first | simp only [hb, cond_false] at hR | (simp only [*] at hb; simp only [hb, cond_false] at hR)
    refine AWP.skip ?_
    refine AWP.seq ?_
    refine AWP.regS G_ok spec_LeastRest_DD hc (by kernel_rfl) (fun K hK => ?_); simp only [ea, gv, sv, D_spec_l28Ok, D_spec_l28Of, D_spec_l00Min, reduceCtorEq, reduceIte, Nat.reduceBEq, Nat.reduceAdd, Nat.reduceEqDiff, Nat.reduceLT, Nat.reduceLeDiff, Nat.reduceMul, Nat.reduceSub, BEq.rfl, beq_self_eq_true, Int.reduceToNat]
    first | refine hK _ ?_ | refine ⟨by (first | trivial | omega | (simp only [ob, ln, bdv, sv] at *; omega) | ((try clear hK K); (repeat' first | apply And.intro | intro _) <;> first | trivial | omega | assumption | solve_by_elim | (apply bd_getD <;> first | assumption | decide) | (apply bd_subL <;> first | assumption | decide) | (simp only [ob, ln, bdv, sv] at *; first | omega | assumption | (simp_all; done) | grind [spec_l28Of_len]))), hK _ ?_⟩
    clear hK K
    refine AWP.seq ?_
    refine AWP.seq ?_
    refine AWP.regS G_ok spec_LeastRest_DD hc (by kernel_rfl) (fun K hK => ?_); simp only [ea, gv, sv, D_spec_l28Ok, D_spec_l28Of, D_spec_l00Min, reduceCtorEq, reduceIte, Nat.reduceBEq, Nat.reduceAdd, Nat.reduceEqDiff, Nat.reduceLT, Nat.reduceLeDiff, Nat.reduceMul, Nat.reduceSub, BEq.rfl, beq_self_eq_true, Int.reduceToNat]
    first | refine hK _ ?_ | refine ⟨by (first | trivial | omega | (simp only [ob, ln, bdv, sv] at *; omega) | ((try clear hK K); (repeat' first | apply And.intro | intro _) <;> first | trivial | omega | assumption | solve_by_elim | (apply bd_getD <;> first | assumption | decide) | (apply bd_subL <;> first | assumption | decide) | (simp only [ob, ln, bdv, sv] at *; first | omega | assumption | (simp_all; done) | grind [spec_l28Of_len]))), hK _ ?_⟩
    clear hK K
    refine AWP.cond rfl (fun hb => ?_) (fun hb => ?_)
    · first | simp only [hb, cond_true] at hR | (simp only [*] at hb; simp only [hb, cond_true] at hR)
      refine AWP.seq ?_
      refine AWP.regS G_ok spec_LeastRest_DD hc (by kernel_rfl) (fun K hK => ?_); simp only [ea, gv, sv, D_spec_l28Ok, D_spec_l28Of, D_spec_l00Min, reduceCtorEq, reduceIte, Nat.reduceBEq, Nat.reduceAdd, Nat.reduceEqDiff, Nat.reduceLT, Nat.reduceLeDiff, Nat.reduceMul, Nat.reduceSub, BEq.rfl, beq_self_eq_true, Int.reduceToNat]
      first | refine hK _ ?_ | refine ⟨by (first | trivial | omega | (simp only [ob, ln, bdv, sv] at *; omega) | ((try clear hK K); (repeat' first | apply And.intro | intro _) <;> first | trivial | omega | assumption | solve_by_elim | (apply bd_getD <;> first | assumption | decide) | (apply bd_subL <;> first | assumption | decide) | (simp only [ob, ln, bdv, sv] at *; first | omega | assumption | (simp_all; done) | grind [spec_l28Of_len]))), hK _ ?_⟩
      clear hK K
      refine AWP.ret ?_
      subst hR
      (simp only [en, si, ea, gv, sv, hk, reduceCtorEq, reduceIte, Nat.reduceBEq, Nat.reduceAdd, Nat.reduceEqDiff, Nat.reduceLT, Nat.reduceLeDiff, Nat.reduceMul, Nat.reduceSub, BEq.rfl, beq_self_eq_true, Int.reduceToNat]; first | done | trivial | (and_intros <;> first | rfl | trivial | omega | (rw [IntKind.wrap_i64]; omega) | (simp only [ln]; done) | (simp only [ob, ln, bdv, sv] at *; first | omega | grind [spec_l28Of_len]) | (left; intro j hj; simp only [pw, Bool.cond_eq_ite, Bool.and_eq_true, decide_eq_true_eq]; (repeat' split) <;> simp [putL, NoBorL, NoBor]) | (intro j hj; simp only [pw, Bool.cond_eq_ite, Bool.and_eq_true, decide_eq_true_eq]; (try rw [subL_getD _ _ _ _ (by first | assumption | omega)]); (try rw [clearL_getD _ _ _ _ (by first | omega | (simp only [ob, ln, bdv] at *; omega))]); (repeat' split) <;> first | rfl | omega | exact simOL_refl _ | (simp_all; done) | (simp_all; rfl) | (simp_all; omega) | (simp_all; exact simOL_refl _) | (simp [putL, NoBorL, NoBor]; done))))
    · first | simp only [hb, cond_false] at hR | (simp only [*] at hb; simp only [hb, cond_false] at hR)
      refine AWP.skip ?_
      refine AWP.seq ?_
      refine AWP.regM mixed G_ok spec_LeastRest_DD hc (by kernel_rfl) (by kernel_rfl) (fun K hK => ?_); simp only [ea, gv, sv, D_spec_l28Ok, D_spec_l28Of, D_spec_l00Min, reduceCtorEq, reduceIte, Nat.reduceBEq, Nat.reduceAdd, Nat.reduceEqDiff, Nat.reduceLT, Nat.reduceLeDiff, Nat.reduceMul, Nat.reduceSub, BEq.rfl, beq_self_eq_true, Int.reduceToNat]
      first | refine hK _ ?_ | refine ⟨by (first | trivial | omega | (simp only [ob, ln, bdv, sv] at *; omega) | ((try clear hK K); (repeat' first | apply And.intro | intro _) <;> first | trivial | omega | assumption | solve_by_elim | (apply bd_getD <;> first | assumption | decide) | (apply bd_subL <;> first | assumption | decide) | (simp only [ob, ln, bdv, sv] at *; first | omega | assumption | (simp_all; done) | grind [spec_l28Of_len]))), hK _ ?_⟩
      clear hK K
      refine AWP.seq ?_
      refine AWP.seq ?_
      refine AWP.regS G_ok spec_LeastRest_DD hc (by kernel_rfl) (fun K hK => ?_); simp only [ea, gv, sv, D_spec_l28Ok, D_spec_l28Of, D_spec_l00Min, reduceCtorEq, reduceIte, Nat.reduceBEq, Nat.reduceAdd, Nat.reduceEqDiff, Nat.reduceLT, Nat.reduceLeDiff, Nat.reduceMul, Nat.reduceSub, BEq.rfl, beq_self_eq_true, Int.reduceToNat]
      first | refine hK _ ?_ | refine ⟨by (first | trivial | omega | (simp only [ob, ln, bdv, sv] at *; omega) | ((try clear hK K); (repeat' first | apply And.intro | intro _) <;> first | trivial | omega | assumption | solve_by_elim | (apply bd_getD <;> first | assumption | decide) | (apply bd_subL <;> first | assumption | decide) | (simp only [ob, ln, bdv, sv] at *; first | omega | assumption | (simp_all; done) | grind [spec_l28Of_len]))), hK _ ?_⟩
      clear hK K
      refine AWP.block ?_
      generalize hz1 : loopR (spec_LeastRest_b1 a0 a1) (((spec_l28Of a0 a1).length) - 2) 2 (IntKind.wrap .i64 ((((spec_l28Of a0 a1).getD 1 default).From) - (((spec_l28Of a0 a1).getD 0 default).Until))) = z1 at hR
      refine AWP.range (spec_LeastRest_b1 a0 a1) (fun i1 s1 => ⟨[(6, .ref 0 3 0 ((spec_l28Of a0 a1).length)), (7, .int .i64 s1), (8, .int .i64 (i1 : Int))], [.arr 103 3 (spec_l28Of a0 a1).length (fun j => eDuty ((spec_l28Of a0 a1).getD j default))]⟩) (fun i1 s1 => 2 ≤ i1) (((spec_l28Of a0 a1).length)) 2 (IntKind.wrap .i64 ((((spec_l28Of a0 a1).getD 1 default).From) - (((spec_l28Of a0 a1).getD 0 default).Until))) [0] hz1 (by (first | trivial | omega | (simp only [ob, ln, bdv, sv] at *; omega) | ((try clear hK K); (repeat' first | apply And.intro | intro _) <;> first | trivial | omega | assumption | solve_by_elim | (apply bd_getD <;> first | assumption | decide) | (apply bd_subL <;> first | assumption | decide) | (simp only [ob, ln, bdv, sv] at *; first | omega | assumption | (simp_all; done) | grind [spec_l28Of_len])))) (by (first | trivial | (and_intros <;> simp only [ln] <;> omega) | (and_intros <;> simp only [ob, ln] at * <;> omega) | (and_intros <;> first | trivial | omega | assumption | (apply bd_set <;> first | assumption | (apply bd_getD <;> first | assumption | decide)) | (apply bd_app <;> first | assumption | (apply bd_getD <;> first | assumption | decide)) | (simp only [ob, ln, bdv, sv] at *; omega) | (simp; done)))) (by (simp only [si, ea, gv, sv, hk, reduceCtorEq, reduceIte, Nat.reduceBEq, Nat.reduceAdd, Nat.reduceEqDiff, Nat.reduceLT, Nat.reduceLeDiff, Nat.reduceMul, Nat.reduceSub, BEq.rfl, beq_self_eq_true, Int.reduceToNat]; first | done | trivial | (and_intros <;> first | rfl | trivial | omega | (rw [IntKind.wrap_i64]; omega) | (simp only [ln]; done) | (simp only [ob, ln, bdv, sv] at *; first | omega | grind [spec_l28Of_len]) | (left; intro j hj; simp only [pw, Bool.cond_eq_ite, Bool.and_eq_true, decide_eq_true_eq]; (repeat' split) <;> simp [putL, NoBorL, NoBor]) | (intro j hj; simp only [pw, Bool.cond_eq_ite, Bool.and_eq_true, decide_eq_true_eq]; (try rw [subL_getD _ _ _ _ (by first | assumption | omega)]); (try rw [clearL_getD _ _ _ _ (by first | omega | (simp only [ob, ln, bdv] at *; omega))]); (repeat' split) <;> first | rfl | omega | exact simOL_refl _ | (simp_all; done) | (simp_all; rfl) | (simp_all; omega) | (simp_all; exact simOL_refl _) | (simp [putL, NoBorL, NoBor]; done))))) ?_
      clear hz1
      intro i1 s1 hi1 hW1 hz1
      refine AWP.seq ?_
      refine AWP.seq ?_
      refine AWP.regS G_ok spec_LeastRest_DD hc (by kernel_rfl) (fun K hK => ?_); simp only [ea, gv, sv, D_spec_l28Ok, D_spec_l28Of, D_spec_l00Min, reduceCtorEq, reduceIte, Nat.reduceBEq, Nat.reduceAdd, Nat.reduceEqDiff, Nat.reduceLT, Nat.reduceLeDiff, Nat.reduceMul, Nat.reduceSub, BEq.rfl, beq_self_eq_true, Int.reduceToNat]
      first | refine hK _ ?_ | refine ⟨by (first | trivial | omega | (simp only [ob, ln, bdv, sv] at *; omega) | ((try clear hK K); (repeat' first | apply And.intro | intro _) <;> first | trivial | omega | assumption | solve_by_elim | (apply bd_getD <;> first | assumption | decide) | (apply bd_subL <;> first | assumption | decide) | (simp only [ob, ln, bdv, sv] at *; first | omega | assumption | (simp_all; done) | grind [spec_l28Of_len]))), hK _ ?_⟩
      clear hK K
      refine AWP.cond rfl (fun hb => ?_) (fun hb => ?_)
      · have hlt1 : i1 < ((spec_l28Of a0 a1).length) := by (first | trivial | omega | (simp only [ob, ln, bdv, sv] at *; omega) | ((try clear hK K); (repeat' first | apply And.intro | intro _) <;> first | trivial | omega | assumption | solve_by_elim | (apply bd_getD <;> first | assumption | decide) | (apply bd_subL <;> first | assumption | decide) | (simp only [ob, ln, bdv, sv] at *; first | omega | assumption | (simp_all; done) | grind [spec_l28Of_len])))
        rw [loopR_lt hlt1] at hz1; simp only [spec_LeastRest_b1] at hz1
        refine AWP.skip ?_
        refine AWP.seq ?_
        refine AWP.block ?_
        refine AWP.regM mixed G_ok spec_LeastRest_DD hc (by kernel_rfl) (by kernel_rfl) (fun K hK => ?_); simp only [ea, gv, sv, D_spec_l28Ok, D_spec_l28Of, D_spec_l00Min, reduceCtorEq, reduceIte, Nat.reduceBEq, Nat.reduceAdd, Nat.reduceEqDiff, Nat.reduceLT, Nat.reduceLeDiff, Nat.reduceMul, Nat.reduceSub, BEq.rfl, beq_self_eq_true, Int.reduceToNat]
        first | refine hK _ ?_ | refine ⟨by (first | trivial | omega | (simp only [ob, ln, bdv, sv] at *; omega) | ((try clear hK K); (repeat' first | apply And.intro | intro _) <;> first | trivial | omega | assumption | solve_by_elim | (apply bd_getD <;> first | assumption | decide) | (apply bd_subL <;> first | assumption | decide) | (simp only [ob, ln, bdv, sv] at *; first | omega | assumption | (simp_all; done) | grind [spec_l28Of_len]))), hK _ ?_⟩
        clear hK K
        refine AWP.regS G_ok spec_LeastRest_DD hc (by kernel_rfl) (fun K hK => ?_); simp only [ea, gv, sv, D_spec_l28Ok, D_spec_l28Of, D_spec_l00Min, reduceCtorEq, reduceIte, Nat.reduceBEq, Nat.reduceAdd, Nat.reduceEqDiff, Nat.reduceLT, Nat.reduceLeDiff, Nat.reduceMul, Nat.reduceSub, BEq.rfl, beq_self_eq_true, Int.reduceToNat]
        first | refine hK _ ?_ | refine ⟨by (first | trivial | omega | (simp only [ob, ln, bdv, sv] at *; omega) | ((try clear hK K); (repeat' first | apply And.intro | intro _) <;> first | trivial | omega | assumption | solve_by_elim | (apply bd_getD <;> first | assumption | decide) | (apply bd_subL <;> first | assumption | decide) | (simp only [ob, ln, bdv, sv] at *; first | omega | assumption | (simp_all; done) | grind [spec_l28Of_len]))), hK _ ?_⟩
        clear hK K
        exact ⟨_, [0], hlt1, by (first | trivial | (and_intros <;> simp only [ln] <;> omega) | (and_intros <;> simp only [ob, ln] at * <;> omega) | (and_intros <;> first | trivial | omega | assumption | (apply bd_set <;> first | assumption | (apply bd_getD <;> first | assumption | decide)) | (apply bd_app <;> first | assumption | (apply bd_getD <;> first | assumption | decide)) | (simp only [ob, ln, bdv, sv] at *; omega) | (simp; done))), hz1, by (simp only [si, ea, gv, sv, hk, reduceCtorEq, reduceIte, Nat.reduceBEq, Nat.reduceAdd, Nat.reduceEqDiff, Nat.reduceLT, Nat.reduceLeDiff, Nat.reduceMul, Nat.reduceSub, BEq.rfl, beq_self_eq_true, Int.reduceToNat]; first | done | trivial | (and_intros <;> first | rfl | trivial | omega | (rw [IntKind.wrap_i64]; omega) | (simp only [ln]; done) | (simp only [ob, ln, bdv, sv] at *; first | omega | grind [spec_l28Of_len]) | (left; intro j hj; simp only [pw, Bool.cond_eq_ite, Bool.and_eq_true, decide_eq_true_eq]; (repeat' split) <;> simp [putL, NoBorL, NoBor]) | (intro j hj; simp only [pw, Bool.cond_eq_ite, Bool.and_eq_true, decide_eq_true_eq]; (try rw [subL_getD _ _ _ _ (by first | assumption | omega)]); (try rw [clearL_getD _ _ _ _ (by first | omega | (simp only [ob, ln, bdv] at *; omega))]); (repeat' split) <;> first | rfl | omega | exact simOL_refl _ | (simp_all; done) | (simp_all; rfl) | (simp_all; omega) | (simp_all; exact simOL_refl _) | (simp [putL, NoBorL, NoBor]; done))))⟩
      · obtain rfl : i1 = ((spec_l28Of a0 a1).length) := by (first | trivial | omega | (simp only [ob, ln, bdv, sv] at *; omega) | ((try clear hK K); (repeat' first | apply And.intro | intro _) <;> first | trivial | omega | assumption | solve_by_elim | (apply bd_getD <;> first | assumption | decide) | (apply bd_subL <;> first | assumption | decide) | (simp only [ob, ln, bdv, sv] at *; first | omega | assumption | (simp_all; done) | grind [spec_l28Of_len])))
        rw [loopR_ge (Nat.le_refl _)] at hz1; subst hz1; dsimp only at hR
        refine AWP.exit ?_; refine exitTo_here ?_
        refine AWP.seq ?_
        refine AWP.regS G_ok spec_LeastRest_DD hc (by kernel_rfl) (fun K hK => ?_); simp only [ea, gv, sv, D_spec_l28Ok, D_spec_l28Of, D_spec_l00Min, reduceCtorEq, reduceIte, Nat.reduceBEq, Nat.reduceAdd, Nat.reduceEqDiff, Nat.reduceLT, Nat.reduceLeDiff, Nat.reduceMul, Nat.reduceSub, BEq.rfl, beq_self_eq_true, Int.reduceToNat]
        first | refine hK _ ?_ | refine ⟨by (first | trivial | omega | (simp only [ob, ln, bdv, sv] at *; omega) | ((try clear hK K); (repeat' first | apply And.intro | intro _) <;> first | trivial | omega | assumption | solve_by_elim | (apply bd_getD <;> first | assumption | decide) | (apply bd_subL <;> first | assumption | decide) | (simp only [ob, ln, bdv, sv] at *; first | omega | assumption | (simp_all; done) | grind [spec_l28Of_len]))), hK _ ?_⟩
        clear hK K
        refine AWP.ret ?_
        subst hR
        (simp only [en, si, ea, gv, sv, hk, reduceCtorEq, reduceIte, Nat.reduceBEq, Nat.reduceAdd, Nat.reduceEqDiff, Nat.reduceLT, Nat.reduceLeDiff, Nat.reduceMul, Nat.reduceSub, BEq.rfl, beq_self_eq_true, Int.reduceToNat]; first | done | trivial | (and_intros <;> first | rfl | trivial | omega | (rw [IntKind.wrap_i64]; omega) | (simp only [ln]; done) | (simp only [ob, ln, bdv, sv] at *; first | omega | grind [spec_l28Of_len]) | (left; intro j hj; simp only [pw, Bool.cond_eq_ite, Bool.and_eq_true, decide_eq_true_eq]; (repeat' split) <;> simp [putL, NoBorL, NoBor]) | (intro j hj; simp only [pw, Bool.cond_eq_ite, Bool.and_eq_true, decide_eq_true_eq]; (try rw [subL_getD _ _ _ _ (by first | assumption | omega)]); (try rw [clearL_getD _ _ _ _ (by first | omega | (simp only [ob, ln, bdv] at *; omega))]); (repeat' split) <;> first | rfl | omega | exact simOL_refl _ | (simp_all; done) | (simp_all; rfl) | (simp_all; omega) | (simp_all; exact simOL_refl _) | (simp [putL, NoBorL, NoBor]; done))))

def D_spec_LeastRest : DF
  | [x0, x1] => some (.tup [.int .i64 ((spec_LeastRest (rdL dDuty x0) (rdS x1)).1), .int .i64 ((spec_LeastRest (rdL dDuty x0) (rdS x1)).2)], false, [wL 3 eDuty dDuty x0, wS x1, (rdL dDuty x0).length < 1099511627776, ∀ v ∈ (rdL dDuty x0), bdDuty v, (rdS x1).length < 1099511627776])
  | _ => none
theorem D_spec_LeastRest_ok : OkD Try.prog 48 D_spec_LeastRest := by
  intro xs r z ob h ho
  unfold D_spec_LeastRest at h
  split at h
  · simp only [Option.some.injEq, Prod.mk.injEq] at h
    obtain ⟨rfl, rfl, rfl⟩ := h
    obtain ⟨h0, h1, hb0, hb1, hb2, _⟩ := ho
    exact Den.sim (spec_LeastRest_den _ _ hb0 hb1 hb2) (simOL_cons (wL_sim h0).1 <| simOL_cons (wS_sim h1).1 <| trivial) (noIdL_cons (wL_sim h0).2 <| noIdL_cons (wS_sim h1).2 <| rfl) rfl
  · cases h
end Go.Ab

namespace Go.Ab
open Go Go.Proofs
theorem impl_LeastRest_DD : DOk Try.prog (DD [(34, dP D_impl_ValidDuties), (94, dP D_impl_dutiesOf)]) := DD_cons D_impl_ValidDuties_ok.e <| DD_cons D_impl_dutiesOf_ok.e <| DD_nil _
def impl_LeastRest_b1 (a0 : (List Duty)) (a1 : (List UInt8)) (i1 : Nat) (s1 : Int) : Except ((Int × Int)) (Int) :=
  .ok (if IntKind.wrap .i64 ((((impl_dutiesOf a0 a1).getD i1 default).From) - (((impl_dutiesOf a0 a1).getD ((IntKind.wrap .i64 ((i1 : Int) - 1)).toNat) default).Until)) < s1 then IntKind.wrap .i64 ((((impl_dutiesOf a0 a1).getD i1 default).From) - (((impl_dutiesOf a0 a1).getD ((IntKind.wrap .i64 ((i1 : Int) - 1)).toNat) default).Until)) else s1)

def impl_LeastRest (a0 : (List Duty)) (a1 : (List UInt8)) : (Int × Int) :=
  (bif (!(impl_ValidDuties a0)) then (0, 1) else (bif decide (((impl_dutiesOf a0 a1).length : Int) < 2) then (0, 6) else (match loopR (impl_LeastRest_b1 a0 a1) (((impl_dutiesOf a0 a1).length) - 1) 1 (IntKind.wrap .i64 ((((impl_dutiesOf a0 a1).getD 1 default).From) - (((impl_dutiesOf a0 a1).getD 0 default).Until))) with | .error e => e | .ok s1 => (s1, 0))))

theorem impl_LeastRest_den (a0 : (List Duty)) (a1 : (List UInt8)) (hb0 : a0.length < 1099511627776) (hb1 : ∀ v ∈ a0, bdDuty v) (hb2 : a1.length < 1099511627776) : Den Try.prog 49 [encL 3 eDuty a0, .str a1] (.tup [.int .i64 ((impl_LeastRest a0 a1).1), .int .i64 ((impl_LeastRest a0 a1).2)]) := by
  generalize hR : impl_LeastRest a0 a1 = r
  unfold impl_LeastRest at hR
  refine den_intro G_ok Try.func49 (by kernel_rfl) rfl Try.ntmps49 (by rw [Try.results49]) (by simp) rfl ?_
  intro c hc hk
  simp only [pars, Nat.zero_add]
  refine AWP.seq ?_
  refine AWP.regS G_ok impl_LeastRest_DD hc (by kernel_rfl) (fun K hK => ?_); simp only [ea, gv, sv, D_impl_ValidDuties, D_impl_dutiesOf, reduceCtorEq, reduceIte, Nat.reduceBEq, Nat.reduceAdd, Nat.reduceEqDiff, Nat.reduceLT, Nat.reduceLeDiff, Nat.reduceMul, Nat.reduceSub, BEq.rfl, beq_self_eq_true, Int.reduceToNat]
  first | refine hK _ ?_ | refine ⟨by (first | trivial | omega | (simp only [ob, ln, bdv, sv] at *; omega) | ((try clear hK K); (repeat' first | apply And.intro | intro _) <;> first | trivial | omega | assumption | solve_by_elim | (apply bd_getD <;> first | assumption | decide) | (apply bd_subL <;> first | assumption | decide) | (simp only [ob, ln, bdv, sv] at *; first | omega | assumption | (simp_all; done) | grind [impl_dutiesOf_len]))), hK _ ?_⟩
  clear hK K
  refine AWP.seq ?_
  refine AWP.seq ?_
  refine AWP.regS G_ok impl_LeastRest_DD hc (by kernel_rfl) (fun K hK => ?_); simp only [ea, gv, sv, D_impl_ValidDuties, D_impl_dutiesOf, reduceCtorEq, reduceIte, Nat.reduceBEq, Nat.reduceAdd, Nat.reduceEqDiff, Nat.reduceLT, Nat.reduceLeDiff, Nat.reduceMul, Nat.reduceSub, BEq.rfl, beq_self_eq_true, Int.reduceToNat]
  first | refine hK _ ?_ | refine ⟨by (first | trivial | omega | (simp only [ob, ln, bdv, sv] at *; omega) | ((try clear hK K); (repeat' first | apply And.intro | intro _) <;> first | trivial | omega | assumption | solve_by_elim | (apply bd_getD <;> first | assumption | decide) | (apply bd_subL <;> first | assumption | decide) | (simp only [ob, ln, bdv, sv] at *; first | omega | assumption | (simp_all; done) | grind [impl_dutiesOf_len]))), hK _ ?_⟩
  clear hK K
  refine AWP.cond rfl (fun hb => ?_) (fun hb => ?_)
  · first | simp only [hb, cond_true] at hR | (simp only [*] at hb; simp only [hb, cond_true] at hR)
    refine AWP.seq ?_
    refine AWP.regS G_ok impl_LeastRest_DD hc (by kernel_rfl) (fun K hK => ?_); simp only [ea, gv, sv, D_impl_ValidDuties, D_impl_dutiesOf, reduceCtorEq, reduceIte, Nat.reduceBEq, Nat.reduceAdd, Nat.reduceEqDiff, Nat.reduceLT, Nat.reduceLeDiff, Nat.reduceMul, Nat.reduceSub, BEq.rfl, beq_self_eq_true, Int.reduceToNat]
    first | refine hK _ ?_ | refine ⟨by (first | trivial | omega | (simp only [ob, ln, bdv, sv] at *; omega) | ((try clear hK K); (repeat' first | apply And.intro | intro _) <;> first | trivial | omega | assumption | solve_by_elim | (apply bd_getD <;> first | assumption | decide) | (apply bd_subL <;> first | assumption | decide) | (simp only [ob, ln, bdv, sv] at *; first | omega | assumption | (simp_all; done) | grind [impl_dutiesOf_len]))), hK _ ?_⟩
    clear hK K
    refine AWP.ret ?_
    subst hR
    (simp only [en, si, ea, gv, sv, hk, reduceCtorEq, reduceIte, Nat.reduceBEq, Nat.reduceAdd, Nat.reduceEqDiff, Nat.reduceLT, Nat.reduceLeDiff, Nat.reduceMul, Nat.reduceSub, BEq.rfl, beq_self_eq_true, Int.reduceToNat]; first | done | trivial | (and_intros <;> first | rfl | trivial | omega | (rw [IntKind.wrap_i64]; omega) | (simp only [ln]; done) | (simp only [ob, ln, bdv, sv] at *; first | omega | grind [impl_dutiesOf_len]) | (left; intro j hj; simp only [pw, Bool.cond_eq_ite, Bool.and_eq_true, decide_eq_true_eq]; (repeat' split) <;> simp [putL, NoBorL, NoBor]) | (intro j hj; simp only [pw, Bool.cond_eq_ite, Bool.and_eq_true, decide_eq_true_eq]; (try rw [subL_getD _ _ _ _ (by first | assumption | omega)]); (try rw [clearL_getD _ _ _ _ (by first | omega | (simp only [ob, ln, bdv] at *; omega))]); (repeat' split) <;> first | rfl | omega | exact simOL_refl _ | (simp_all; done) | (simp_all; rfl) | (simp_all; omega) | (simp_all; exact simOL_refl _) | (simp [putL, NoBorL, NoBor]; done))))
  · first | simp only [hb, cond_false] at hR | (simp only [*] at hb; simp only [hb, cond_false] at hR)
    refine AWP.skip ?_
    refine AWP.seq ?_
    refine AWP.regS G_ok impl_LeastRest_DD hc (by kernel_rfl) (fun K hK => ?_); simp only [ea, gv, sv, D_impl_ValidDuties, D_impl_dutiesOf, reduceCtorEq, reduceIte, Nat.reduceBEq, Nat.reduceAdd, Nat.reduceEqDiff, Nat.reduceLT, Nat.reduceLeDiff, Nat.reduceMul, Nat.reduceSub, BEq.rfl, beq_self_eq_true, Int.reduceToNat]
    first | refine hK _ ?_ | refine ⟨by (first | trivial | omega | (simp only [ob, ln, bdv, sv] at *; omega) | ((try clear hK K); (repeat' first | apply And.intro | intro _) <;> first | trivial | omega | assumption | solve_by_elim | (apply bd_getD <;> first | assumption | decide) | (apply bd_subL <;> first | assumption | decide) | (simp only [ob, ln, bdv, sv] at *; first | omega | assumption | (simp_all; done) | grind [impl_dutiesOf_len]))), hK _ ?_⟩
    clear hK K
    refine AWP.seq ?_
    refine AWP.seq ?_
    refine AWP.regS G_ok impl_LeastRest_DD hc (by kernel_rfl) (fun K hK => ?_); simp only [ea, gv, sv, D_impl_ValidDuties, D_impl_dutiesOf, reduceCtorEq, reduceIte, Nat.reduceBEq, Nat.reduceAdd, Nat.reduceEqDiff, Nat.reduceLT, Nat.reduceLeDiff, Nat.reduceMul, Nat.reduceSub, BEq.rfl, beq_self_eq_true, Int.reduceToNat]
    first | refine hK _ ?_ | refine ⟨by (first | trivial | omega | (simp only [ob, ln, bdv, sv] at *; omega) | ((try clear hK K); (repeat' first | apply And.intro | intro _) <;> first | trivial | omega | assumption | solve_by_elim | (apply bd_getD <;> first | assumption | decide) | (apply bd_subL <;> first | assumption | decide) | (simp only [ob, ln, bdv, sv] at *; first | omega | assumption | (simp_all; done) | grind [impl_dutiesOf_len]))), hK _ ?_⟩
    clear hK K
    refine AWP.cond rfl (fun hb => ?_) (fun hb => ?_)
    · first | simp only [hb, cond_true] at hR | (simp only [*] at hb; simp only [hb, cond_true] at hR)
      refine AWP.seq ?_
      refine AWP.regS G_ok impl_LeastRest_DD hc (by kernel_rfl) (fun K hK => ?_); simp only [ea, gv, sv, D_impl_ValidDuties, D_impl_dutiesOf, reduceCtorEq, reduceIte, Nat.reduceBEq, Nat.reduceAdd, Nat.reduceEqDiff, Nat.reduceLT, Nat.reduceLeDiff, Nat.reduceMul, Nat.reduceSub, BEq.rfl, beq_self_eq_true, Int.reduceToNat]
      first | refine hK _ ?_ | refine ⟨by (first | trivial | omega | (simp only [ob, ln, bdv, sv] at *; omega) | ((try clear hK K); (repeat' first | apply And.intro | intro _) <;> first | trivial | omega | assumption | solve_by_elim | (apply bd_getD <;> first | assumption | decide) | (apply bd_subL <;> first | assumption | decide) | (simp only [ob, ln, bdv, sv] at *; first | omega | assumption | (simp_all; done) | grind [impl_dutiesOf_len]))), hK _ ?_⟩
      clear hK K
      refine AWP.ret ?_
      subst hR
      (simp only [en, si, ea, gv, sv, hk, reduceCtorEq, reduceIte, Nat.reduceBEq, Nat.reduceAdd, Nat.reduceEqDiff, Nat.reduceLT, Nat.reduceLeDiff, Nat.reduceMul, Nat.reduceSub, BEq.rfl, beq_self_eq_true, Int.reduceToNat]; first | done | trivial | (and_intros <;> first | rfl | trivial | omega | (rw [IntKind.wrap_i64]; omega) | (simp only [ln]; done) | (simp only [ob, ln, bdv, sv] at *; first | omega | grind [impl_dutiesOf_len]) | (left; intro j hj; simp only [pw, Bool.cond_eq_ite, Bool.and_eq_true, decide_eq_true_eq]; (repeat' split) <;> simp [putL, NoBorL, NoBor]) | (intro j hj; simp only [pw, Bool.cond_eq_ite, Bool.and_eq_true, decide_eq_true_eq]; (try rw [subL_getD _ _ _ _ (by first | assumption | omega)]); (try rw [clearL_getD _ _ _ _ (by first | omega | (simp only [ob, ln, bdv] at *; omega))]); (repeat' split) <;> first | rfl | omega | exact simOL_refl _ | (simp_all; done) | (simp_all; rfl) | (simp_all; omega) | (simp_all; exact simOL_refl _) | (simp [putL, NoBorL, NoBor]; done))))
    · first | simp only [hb, cond_false] at hR | (simp only [*] at hb; simp only [hb, cond_false] at hR)
      refine AWP.skip ?_
      refine AWP.seq ?_
      refine AWP.regM mixed G_ok impl_LeastRest_DD hc (by kernel_rfl) (by kernel_rfl) (fun K hK => ?_); simp only [ea, gv, sv, D_impl_ValidDuties, D_impl_dutiesOf, reduceCtorEq, reduceIte, Nat.reduceBEq, Nat.reduceAdd, Nat.reduceEqDiff, Nat.reduceLT, Nat.reduceLeDiff, Nat.reduceMul, Nat.reduceSub, BEq.rfl, beq_self_eq_true, Int.reduceToNat]
      first | refine hK _ ?_ | refine ⟨by (first | trivial | omega | (simp only [ob, ln, bdv, sv] at *; omega) | ((try clear hK K); (repeat' first | apply And.intro | intro _) <;> first | trivial | omega | assumption | solve_by_elim | (apply bd_getD <;> first | assumption | decide) | (apply bd_subL <;> first | assumption | decide) | (simp only [ob, ln, bdv, sv] at *; first | omega | assumption | (simp_all; done) | grind [impl_dutiesOf_len]))), hK _ ?_⟩
      clear hK K
      refine AWP.seq ?_
      refine AWP.seq ?_
      refine AWP.regS G_ok impl_LeastRest_DD hc (by kernel_rfl) (fun K hK => ?_); simp only [ea, gv, sv, D_impl_ValidDuties, D_impl_dutiesOf, reduceCtorEq, reduceIte, Nat.reduceBEq, Nat.reduceAdd, Nat.reduceEqDiff, Nat.reduceLT, Nat.reduceLeDiff, Nat.reduceMul, Nat.reduceSub, BEq.rfl, beq_self_eq_true, Int.reduceToNat]
      first | refine hK _ ?_ | refine ⟨by (first | trivial | omega | (simp only [ob, ln, bdv, sv] at *; omega) | ((try clear hK K); (repeat' first | apply And.intro | intro _) <;> first | trivial | omega | assumption | solve_by_elim | (apply bd_getD <;> first | assumption | decide) | (apply bd_subL <;> first | assumption | decide) | (simp only [ob, ln, bdv, sv] at *; first | omega | assumption | (simp_all; done) | grind [impl_dutiesOf_len]))), hK _ ?_⟩
      clear hK K
      refine AWP.block ?_
      generalize hz1 : loopR (impl_LeastRest_b1 a0 a1) (((impl_dutiesOf a0 a1).length) - 1) 1 (IntKind.wrap .i64 ((((impl_dutiesOf a0 a1).getD 1 default).From) - (((impl_dutiesOf a0 a1).getD 0 default).Until))) = z1 at hR
      refine AWP.range (impl_LeastRest_b1 a0 a1) (fun i1 s1 => ⟨[(6, .ref 0 3 0 ((impl_dutiesOf a0 a1).length)), (7, .int .i64 s1), (8, .int .i64 (i1 : Int))], [.arr 103 3 (impl_dutiesOf a0 a1).length (fun j => eDuty ((impl_dutiesOf a0 a1).getD j default))]⟩) (fun i1 s1 => 1 ≤ i1) (((impl_dutiesOf a0 a1).length)) 1 (IntKind.wrap .i64 ((((impl_dutiesOf a0 a1).getD 1 default).From) - (((impl_dutiesOf a0 a1).getD 0 default).Until))) [0] hz1 (by (first | trivial | omega | (simp only [ob, ln, bdv, sv] at *; omega) | ((try clear hK K); (repeat' first | apply And.intro | intro _) <;> first | trivial | omega | assumption | solve_by_elim | (apply bd_getD <;> first | assumption | decide) | (apply bd_subL <;> first | assumption | decide) | (simp only [ob, ln, bdv, sv] at *; first | omega | assumption | (simp_all; done) | grind [impl_dutiesOf_len])))) (by (first | trivial | (and_intros <;> simp only [ln] <;> omega) | (and_intros <;> simp only [ob, ln] at * <;> omega) | (and_intros <;> first | trivial | omega | assumption | (apply bd_set <;> first | assumption | (apply bd_getD <;> first | assumption | decide)) | (apply bd_app <;> first | assumption | (apply bd_getD <;> first | assumption | decide)) | (simp only [ob, ln, bdv, sv] at *; omega) | (simp; done)))) (by (simp only [si, ea, gv, sv, hk, reduceCtorEq, reduceIte, Nat.reduceBEq, Nat.reduceAdd, Nat.reduceEqDiff, Nat.reduceLT, Nat.reduceLeDiff, Nat.reduceMul, Nat.reduceSub, BEq.rfl, beq_self_eq_true, Int.reduceToNat]; first | done | trivial | (and_intros <;> first | rfl | trivial | omega | (rw [IntKind.wrap_i64]; omega) | (simp only [ln]; done) | (simp only [ob, ln, bdv, sv] at *; first | omega | grind [impl_dutiesOf_len]) | (left; intro j hj; simp only [pw, Bool.cond_eq_ite, Bool.and_eq_true, decide_eq_true_eq]; (repeat' split) <;> simp [putL, NoBorL, NoBor]) | (intro j hj; simp only [pw, Bool.cond_eq_ite, Bool.and_eq_true, decide_eq_true_eq]; (try rw [subL_getD _ _ _ _ (by first | assumption | omega)]); (try rw [clearL_getD _ _ _ _ (by first | omega | (simp only [ob, ln, bdv] at *; omega))]); (repeat' split) <;> first | rfl | omega | exact simOL_refl _ | (simp_all; done) | (simp_all; rfl) | (simp_all; omega) | (simp_all; exact simOL_refl _) | (simp [putL, NoBorL, NoBor]; done))))) ?_
      clear hz1
      intro i1 s1 hi1 hW1 hz1
      refine AWP.seq ?_
      refine AWP.seq ?_
      refine AWP.regS G_ok impl_LeastRest_DD hc (by kernel_rfl) (fun K hK => ?_); simp only [ea, gv, sv, D_impl_ValidDuties, D_impl_dutiesOf, reduceCtorEq, reduceIte, Nat.reduceBEq, Nat.reduceAdd, Nat.reduceEqDiff, Nat.reduceLT, Nat.reduceLeDiff, Nat.reduceMul, Nat.reduceSub, BEq.rfl, beq_self_eq_true, Int.reduceToNat]
      first | refine hK _ ?_ | refine ⟨by (first | trivial | omega | (simp only [ob, ln, bdv, sv] at *; omega) | ((try clear hK K); (repeat' first | apply And.intro | intro _) <;> first | trivial | omega | assumption | solve_by_elim | (apply bd_getD <;> first | assumption | decide) | (apply bd_subL <;> first | assumption | decide) | (simp only [ob, ln, bdv, sv] at *; first | omega | assumption | (simp_all; done) | grind [impl_dutiesOf_len]))), hK _ ?_⟩
      clear hK K
      refine AWP.cond rfl (fun hb => ?_) (fun hb => ?_)
      · have hlt1 : i1 < ((impl_dutiesOf a0 a1).length) := by (first | trivial | omega | (simp only [ob, ln, bdv, sv] at *; omega) | ((try clear hK K); (repeat' first | apply And.intro | intro _) <;> first | trivial | omega | assumption | solve_by_elim | (apply bd_getD <;> first | assumption | decide) | (apply bd_subL <;> first | assumption | decide) | (simp only [ob, ln, bdv, sv] at *; first | omega | assumption | (simp_all; done) | grind [impl_dutiesOf_len])))
        rw [loopR_lt hlt1] at hz1; simp only [impl_LeastRest_b1] at hz1
        refine AWP.skip ?_
        refine AWP.seq ?_
        refine AWP.block ?_
        refine AWP.regM mixed G_ok impl_LeastRest_DD hc (by kernel_rfl) (by kernel_rfl) (fun K hK => ?_); simp only [ea, gv, sv, D_impl_ValidDuties, D_impl_dutiesOf, reduceCtorEq, reduceIte, Nat.reduceBEq, Nat.reduceAdd, Nat.reduceEqDiff, Nat.reduceLT, Nat.reduceLeDiff, Nat.reduceMul, Nat.reduceSub, BEq.rfl, beq_self_eq_true, Int.reduceToNat]
        first | refine hK _ ?_ | refine ⟨by (first | trivial | omega | (simp only [ob, ln, bdv, sv] at *; omega) | ((try clear hK K); (repeat' first | apply And.intro | intro _) <;> first | trivial | omega | assumption | solve_by_elim | (apply bd_getD <;> first | assumption | decide) | (apply bd_subL <;> first | assumption | decide) | (simp only [ob, ln, bdv, sv] at *; first | omega | assumption | (simp_all; done) | grind [impl_dutiesOf_len]))), hK _ ?_⟩
        clear hK K
        refine AWP.regS G_ok impl_LeastRest_DD hc (by kernel_rfl) (fun K hK => ?_); simp only [ea, gv, sv, D_impl_ValidDuties, D_impl_dutiesOf, reduceCtorEq, reduceIte, Nat.reduceBEq, Nat.reduceAdd, Nat.reduceEqDiff, Nat.reduceLT, Nat.reduceLeDiff, Nat.reduceMul, Nat.reduceSub, BEq.rfl, beq_self_eq_true, Int.reduceToNat]
        first | refine hK _ ?_ | refine ⟨by (first | trivial | omega | (simp only [ob, ln, bdv, sv] at *; omega) | ((try clear hK K); (repeat' first | apply And.intro | intro _) <;> first | trivial | omega | assumption | solve_by_elim | (apply bd_getD <;> first | assumption | decide) | (apply bd_subL <;> first | assumption | decide) | (simp only [ob, ln, bdv, sv] at *; first | omega | assumption | (simp_all; done) | grind [impl_dutiesOf_len]))), hK _ ?_⟩
        clear hK K
        exact ⟨_, [0], hlt1, by (first | trivial | (and_intros <;> simp only [ln] <;> omega) | (and_intros <;> simp only [ob, ln] at * <;> omega) | (and_intros <;> first | trivial | omega | assumption | (apply bd_set <;> first | assumption | (apply bd_getD <;> first | assumption | decide)) | (apply bd_app <;> first | assumption | (apply bd_getD <;> first | assumption | decide)) | (simp only [ob, ln, bdv, sv] at *; omega) | (simp; done))), hz1, by (simp only [si, ea, gv, sv, hk, reduceCtorEq, reduceIte, Nat.reduceBEq, Nat.reduceAdd, Nat.reduceEqDiff, Nat.reduceLT, Nat.reduceLeDiff, Nat.reduceMul, Nat.reduceSub, BEq.rfl, beq_self_eq_true, Int.reduceToNat]; first | done | trivial | (and_intros <;> first | rfl | trivial | omega | (rw [IntKind.wrap_i64]; omega) | (simp only [ln]; done) | (simp only [ob, ln, bdv, sv] at *; first | omega | grind [impl_dutiesOf_len]) | (left; intro j hj; simp only [pw, Bool.cond_eq_ite, Bool.and_eq_true, decide_eq_true_eq]; (repeat' split) <;> simp [putL, NoBorL, NoBor]) | (intro j hj; simp only [pw, Bool.cond_eq_ite, Bool.and_eq_true, decide_eq_true_eq]; (try rw [subL_getD _ _ _ _ (by first | assumption | omega)]); (try rw [clearL_getD _ _ _ _ (by first | omega | (simp only [ob, ln, bdv] at *; omega))]); (repeat' split) <;> first | rfl | omega | exact simOL_refl _ | (simp_all; done) | (simp_all; rfl) | (simp_all; omega) | (simp_all; exact simOL_refl _) | (simp [putL, NoBorL, NoBor]; done))))⟩
      · obtain rfl : i1 = ((impl_dutiesOf a0 a1).length) := by (first | trivial | omega | (simp only [ob, ln, bdv, sv] at *; omega) | ((try clear hK K); (repeat' first | apply And.intro | intro _) <;> first | trivial | omega | assumption | solve_by_elim | (apply bd_getD <;> first | assumption | decide) | (apply bd_subL <;> first | assumption | decide) | (simp only [ob, ln, bdv, sv] at *; first | omega | assumption | (simp_all; done) | grind [impl_dutiesOf_len])))
        rw [loopR_ge (Nat.le_refl _)] at hz1; subst hz1; dsimp only at hR
        refine AWP.exit ?_; refine exitTo_here ?_
        refine AWP.seq ?_
        refine AWP.regS G_ok impl_LeastRest_DD hc (by kernel_rfl) (fun K hK => ?_); simp only [ea, gv, sv, D_impl_ValidDuties, D_impl_dutiesOf, reduceCtorEq, reduceIte, Nat.reduceBEq, Nat.reduceAdd, Nat.reduceEqDiff, Nat.reduceLT, Nat.reduceLeDiff, Nat.reduceMul, Nat.reduceSub, BEq.rfl, beq_self_eq_true, Int.reduceToNat]
        first | refine hK _ ?_ | refine ⟨by (first | trivial | omega | (simp only [ob, ln, bdv, sv] at *; omega) | ((try clear hK K); (repeat' first | apply And.intro | intro _) <;> first | trivial | omega | assumption | solve_by_elim | (apply bd_getD <;> first | assumption | decide) | (apply bd_subL <;> first | assumption | decide) | (simp only [ob, ln, bdv, sv] at *; first | omega | assumption | (simp_all; done) | grind [impl_dutiesOf_len]))), hK _ ?_⟩
        clear hK K
        refine AWP.ret ?_
        subst hR
        (simp only [en, si, ea, gv, sv, hk, reduceCtorEq, reduceIte, Nat.reduceBEq, Nat.reduceAdd, Nat.reduceEqDiff, Nat.reduceLT, Nat.reduceLeDiff, Nat.reduceMul, Nat.reduceSub, BEq.rfl, beq_self_eq_true, Int.reduceToNat]; first | done | trivial | (and_intros <;> first | rfl | trivial | omega | (rw [IntKind.wrap_i64]; omega) | (simp only [ln]; done) | (simp only [ob, ln, bdv, sv] at *; first | omega | grind [impl_dutiesOf_len]) | (left; intro j hj; simp only [pw, Bool.cond_eq_ite, Bool.and_eq_true, decide_eq_true_eq]; (repeat' split) <;> simp [putL, NoBorL, NoBor]) | (intro j hj; simp only [pw, Bool.cond_eq_ite, Bool.and_eq_true, decide_eq_true_eq]; (try rw [subL_getD _ _ _ _ (by first | assumption | omega)]); (try rw [clearL_getD _ _ _ _ (by first | omega | (simp only [ob, ln, bdv] at *; omega))]); (repeat' split) <;> first | rfl | omega | exact simOL_refl _ | (simp_all; done) | (simp_all; rfl) | (simp_all; omega) | (simp_all; exact simOL_refl _) | (simp [putL, NoBorL, NoBor]; done))))

def D_impl_LeastRest : DF
  | [x0, x1] => some (.tup [.int .i64 ((impl_LeastRest (rdL dDuty x0) (rdS x1)).1), .int .i64 ((impl_LeastRest (rdL dDuty x0) (rdS x1)).2)], false, [wL 3 eDuty dDuty x0, wS x1, (rdL dDuty x0).length < 1099511627776, ∀ v ∈ (rdL dDuty x0), bdDuty v, (rdS x1).length < 1099511627776])
  | _ => none
theorem D_impl_LeastRest_ok : OkD Try.prog 49 D_impl_LeastRest := by
  intro xs r z ob h ho
  unfold D_impl_LeastRest at h
  split at h
  · simp only [Option.some.injEq, Prod.mk.injEq] at h
    obtain ⟨rfl, rfl, rfl⟩ := h
    obtain ⟨h0, h1, hb0, hb1, hb2, _⟩ := ho
    exact Den.sim (impl_LeastRest_den _ _ hb0 hb1 hb2) (simOL_cons (wL_sim h0).1 <| simOL_cons (wS_sim h1).1 <| trivial) (noIdL_cons (wL_sim h0).2 <| noIdL_cons (wS_sim h1).2 <| rfl) rfl
  · cases h
end Go.Ab

namespace Go.Ab
open Go Go.Proofs
theorem laws_FnExactLeastRest_DD : DOk Try.prog (DD [(31, dP D_laws_szDutyS), (33, dP D_laws_toDutyS), (35, dP D_laws_eqDutyS), (48, dP D_spec_LeastRest), (49, dP D_impl_LeastRest)]) := DD_cons D_laws_szDutyS_ok.e <| DD_cons D_laws_toDutyS_ok.e <| DD_cons D_laws_eqDutyS_ok.e <| DD_cons D_spec_LeastRest_ok.e <| DD_cons D_impl_LeastRest_ok.e <| DD_nil _
def laws_FnExactLeastRest (a0 : (List Duty)) (a1 : (List UInt8)) : Bool :=
  (bif decide (1048576 < (a1.length : Int)) then true else (bif decide ((laws_szDutyS a0 1048576) < 0) then true else (bif ((((impl_LeastRest (laws_toDutyS a0) a1).1) != ((spec_LeastRest (laws_toDutyS a0) a1).1)) || (((impl_LeastRest (laws_toDutyS a0) a1).2) != ((spec_LeastRest (laws_toDutyS a0) a1).2))) then false else (bif (!(laws_eqDutyS (laws_toDutyS a0) (laws_toDutyS a0))) then false else true))))

theorem laws_FnExactLeastRest_den (a0 : (List Duty)) (a1 : (List UInt8)) (hb0 : a0.length < 9223372036854775808) (hb1 : ∀ v ∈ a0, bwDuty v) (hb2 : a1.length < 9223372036854775808) : Den Try.prog 12 [encL 3 eDuty a0, .str a1] (.bool (laws_FnExactLeastRest a0 a1)) := by
  generalize hR : laws_FnExactLeastRest a0 a1 = r
  unfold laws_FnExactLeastRest at hR
  refine den_intro G_ok Try.func12 (by kernel_rfl) rfl Try.ntmps12 (by rw [Try.results12]) (by simp) rfl ?_
  intro c hc hk
  simp only [pars, Nat.zero_add]
  have hf0 := laws_szDutyS_facts a0 (1048576) (by omega) (by omega) hb0 hb1
  refine AWP.seq ?_
  refine AWP.regS G_ok laws_FnExactLeastRest_DD hc (by kernel_rfl) (fun K hK => ?_); simp only [ea, gv, sv, D_laws_szDutyS, D_laws_toDutyS, D_laws_eqDutyS, D_spec_LeastRest, D_impl_LeastRest, reduceCtorEq, reduceIte, Nat.reduceBEq, Nat.reduceAdd, Nat.reduceEqDiff, Nat.reduceLT, Nat.reduceLeDiff, Nat.reduceMul, Nat.reduceSub, BEq.rfl, beq_self_eq_true, Int.reduceToNat]
  first | refine hK _ ?_ | refine ⟨by (first | trivial | omega | (simp only [ob, ln, bdv, laws_toDutyS_id, sv] at *; omega) | ((try clear hK K); (repeat' first | apply And.intro | intro _) <;> first | trivial | omega | assumption | solve_by_elim | (apply bd_getD <;> first | assumption | decide) | (apply bd_subL <;> first | assumption | decide) | (simp only [ob, ln, bdv, laws_toDutyS_id, sv] at *; first | omega | assumption | (simp_all; done) | grind))), hK _ ?_⟩
  clear hK K
  refine AWP.seq ?_
  refine AWP.seq ?_
  refine AWP.regS G_ok laws_FnExactLeastRest_DD hc (by kernel_rfl) (fun K hK => ?_); simp only [ea, gv, sv, D_laws_szDutyS, D_laws_toDutyS, D_laws_eqDutyS, D_spec_LeastRest, D_impl_LeastRest, reduceCtorEq, reduceIte, Nat.reduceBEq, Nat.reduceAdd, Nat.reduceEqDiff, Nat.reduceLT, Nat.reduceLeDiff, Nat.reduceMul, Nat.reduceSub, BEq.rfl, beq_self_eq_true, Int.reduceToNat]
  first | refine hK _ ?_ | refine ⟨by (first | trivial | omega | (simp only [ob, ln, bdv, laws_toDutyS_id, sv] at *; omega) | ((try clear hK K); (repeat' first | apply And.intro | intro _) <;> first | trivial | omega | assumption | solve_by_elim | (apply bd_getD <;> first | assumption | decide) | (apply bd_subL <;> first | assumption | decide) | (simp only [ob, ln, bdv, laws_toDutyS_id, sv] at *; first | omega | assumption | (simp_all; done) | grind))), hK _ ?_⟩
  clear hK K
  refine AWP.cond rfl (fun hb => ?_) (fun hb => ?_)
  · first | simp only [hb, cond_true] at hR | (simp only [*] at hb; simp only [hb, cond_true] at hR)
    refine AWP.seq ?_
    refine AWP.regS G_ok laws_FnExactLeastRest_DD hc (by kernel_rfl) (fun K hK => ?_); simp only [ea, gv, sv, D_laws_szDutyS, D_laws_toDutyS, D_laws_eqDutyS, D_spec_LeastRest, D_impl_LeastRest, reduceCtorEq, reduceIte, Nat.reduceBEq, Nat.reduceAdd, Nat.reduceEqDiff, Nat.reduceLT, Nat.reduceLeDiff, Nat.reduceMul, Nat.reduceSub, BEq.rfl, beq_self_eq_true, Int.reduceToNat]
    first | refine hK _ ?_ | refine ⟨by (first | trivial | omega | (simp only [ob, ln, bdv, laws_toDutyS_id, sv] at *; omega) | ((try clear hK K); (repeat' first | apply And.intro | intro _) <;> first | trivial | omega | assumption | solve_by_elim | (apply bd_getD <;> first | assumption | decide) | (apply bd_subL <;> first | assumption | decide) | (simp only [ob, ln, bdv, laws_toDutyS_id, sv] at *; first | omega | assumption | (simp_all; done) | grind))), hK _ ?_⟩
    clear hK K
    refine AWP.ret ?_
    subst hR
    (simp only [en, si, ea, gv, sv, hk, reduceCtorEq, reduceIte, Nat.reduceBEq, Nat.reduceAdd, Nat.reduceEqDiff, Nat.reduceLT, Nat.reduceLeDiff, Nat.reduceMul, Nat.reduceSub, BEq.rfl, beq_self_eq_true, Int.reduceToNat]; first | done | trivial | (and_intros <;> first | rfl | trivial | omega | (rw [IntKind.wrap_i64]; omega) | (simp only [ln]; done) | (simp only [ob, ln, bdv, laws_toDutyS_id, sv] at *; first | omega | grind) | (left; intro j hj; simp only [pw, Bool.cond_eq_ite, Bool.and_eq_true, decide_eq_true_eq]; (repeat' split) <;> simp [putL, NoBorL, NoBor]) | (intro j hj; simp only [pw, Bool.cond_eq_ite, Bool.and_eq_true, decide_eq_true_eq]; (try rw [subL_getD _ _ _ _ (by first | assumption | omega)]); (try rw [clearL_getD _ _ _ _ (by first | omega | (simp only [ob, ln, bdv] at *; omega))]); (repeat' split) <;> first | rfl | omega | exact simOL_refl _ | (simp_all; done) | (simp_all; rfl) | (simp_all; omega) | (simp_all; exact simOL_refl _) | (simp [putL, NoBorL, NoBor]; done))))
  · first | simp only [hb, cond_false] at hR | (simp only [*] at hb; simp only [hb, cond_false] at hR)
    refine AWP.skip ?_
    refine AWP.seq ?_
    refine AWP.regS G_ok laws_FnExactLeastRest_DD hc (by kernel_rfl) (fun K hK => ?_); simp only [ea, gv, sv, D_laws_szDutyS, D_laws_toDutyS, D_laws_eqDutyS, D_spec_LeastRest, D_impl_LeastRest, reduceCtorEq, reduceIte, Nat.reduceBEq, Nat.reduceAdd, Nat.reduceEqDiff, Nat.reduceLT, Nat.reduceLeDiff, Nat.reduceMul, Nat.reduceSub, BEq.rfl, beq_self_eq_true, Int.reduceToNat]
    first | refine hK _ ?_ | refine ⟨by (first | trivial | omega | (simp only [ob, ln, bdv, laws_toDutyS_id, sv] at *; omega) | ((try clear hK K); (repeat' first | apply And.intro | intro _) <;> first | trivial | omega | assumption | solve_by_elim | (apply bd_getD <;> first | assumption | decide) | (apply bd_subL <;> first | assumption | decide) | (simp only [ob, ln, bdv, laws_toDutyS_id, sv] at *; first | omega | assumption | (simp_all; done) | grind))), hK _ ?_⟩
    clear hK K
    refine AWP.seq ?_
    refine AWP.regS G_ok laws_FnExactLeastRest_DD hc (by kernel_rfl) (fun K hK => ?_); simp only [ea, gv, sv, D_laws_szDutyS, D_laws_toDutyS, D_laws_eqDutyS, D_spec_LeastRest, D_impl_LeastRest, reduceCtorEq, reduceIte, Nat.reduceBEq, Nat.reduceAdd, Nat.reduceEqDiff, Nat.reduceLT, Nat.reduceLeDiff, Nat.reduceMul, Nat.reduceSub, BEq.rfl, beq_self_eq_true, Int.reduceToNat]
    first | refine hK _ ?_ | refine ⟨by (first | trivial | omega | (simp only [ob, ln, bdv, laws_toDutyS_id, sv] at *; omega) | ((try clear hK K); (repeat' first | apply And.intro | intro _) <;> first | trivial | omega | assumption | solve_by_elim | (apply bd_getD <;> first | assumption | decide) | (apply bd_subL <;> first | assumption | decide) | (simp only [ob, ln, bdv, laws_toDutyS_id, sv] at *; first | omega | assumption | (simp_all; done) | grind))), hK _ ?_⟩
    clear hK K
    refine AWP.seq ?_
    refine AWP.seq ?_
    refine AWP.regS G_ok laws_FnExactLeastRest_DD hc (by kernel_rfl) (fun K hK => ?_); simp only [ea, gv, sv, D_laws_szDutyS, D_laws_toDutyS, D_laws_eqDutyS, D_spec_LeastRest, D_impl_LeastRest, reduceCtorEq, reduceIte, Nat.reduceBEq, Nat.reduceAdd, Nat.reduceEqDiff, Nat.reduceLT, Nat.reduceLeDiff, Nat.reduceMul, Nat.reduceSub, BEq.rfl, beq_self_eq_true, Int.reduceToNat]
    first | refine hK _ ?_ | refine ⟨by (first | trivial | omega | (simp only [ob, ln, bdv, laws_toDutyS_id, sv] at *; omega) | ((try clear hK K); (repeat' first | apply And.intro | intro _) <;> first | trivial | omega | assumption | solve_by_elim | (apply bd_getD <;> first | assumption | decide) | (apply bd_subL <;> first | assumption | decide) | (simp only [ob, ln, bdv, laws_toDutyS_id, sv] at *; first | omega | assumption | (simp_all; done) | grind))), hK _ ?_⟩
    clear hK K
    refine AWP.cond rfl (fun hb => ?_) (fun hb => ?_)
    · first | simp only [hb, cond_true] at hR | (simp only [*] at hb; simp only [hb, cond_true] at hR)
      refine AWP.seq ?_
      refine AWP.regS G_ok laws_FnExactLeastRest_DD hc (by kernel_rfl) (fun K hK => ?_); simp only [ea, gv, sv, D_laws_szDutyS, D_laws_toDutyS, D_laws_eqDutyS, D_spec_LeastRest, D_impl_LeastRest, reduceCtorEq, reduceIte, Nat.reduceBEq, Nat.reduceAdd, Nat.reduceEqDiff, Nat.reduceLT, Nat.reduceLeDiff, Nat.reduceMul, Nat.reduceSub, BEq.rfl, beq_self_eq_true, Int.reduceToNat]
      first | refine hK _ ?_ | refine ⟨by (first | trivial | omega | (simp only [ob, ln, bdv, laws_toDutyS_id, sv] at *; omega) | ((try clear hK K); (repeat' first | apply And.intro | intro _) <;> first | trivial | omega | assumption | solve_by_elim | (apply bd_getD <;> first | assumption | decide) | (apply bd_subL <;> first | assumption | decide) | (simp only [ob, ln, bdv, laws_toDutyS_id, sv] at *; first | omega | assumption | (simp_all; done) | grind))), hK _ ?_⟩
      clear hK K
      refine AWP.ret ?_
      subst hR
      (simp only [en, si, ea, gv, sv, hk, reduceCtorEq, reduceIte, Nat.reduceBEq, Nat.reduceAdd, Nat.reduceEqDiff, Nat.reduceLT, Nat.reduceLeDiff, Nat.reduceMul, Nat.reduceSub, BEq.rfl, beq_self_eq_true, Int.reduceToNat]; first | done | trivial | (and_intros <;> first | rfl | trivial | omega | (rw [IntKind.wrap_i64]; omega) | (simp only [ln]; done) | (simp only [ob, ln, bdv, laws_toDutyS_id, sv] at *; first | omega | grind) | (left; intro j hj; simp only [pw, Bool.cond_eq_ite, Bool.and_eq_true, decide_eq_true_eq]; (repeat' split) <;> simp [putL, NoBorL, NoBor]) | (intro j hj; simp only [pw, Bool.cond_eq_ite, Bool.and_eq_true, decide_eq_true_eq]; (try rw [subL_getD _ _ _ _ (by first | assumption | omega)]); (try rw [clearL_getD _ _ _ _ (by first | omega | (simp only [ob, ln, bdv] at *; omega))]); (repeat' split) <;> first | rfl | omega | exact simOL_refl _ | (simp_all; done) | (simp_all; rfl) | (simp_all; omega) | (simp_all; exact simOL_refl _) | (simp [putL, NoBorL, NoBor]; done))))
    · first | simp only [hb, cond_false] at hR | (simp only [*] at hb; simp only [hb, cond_false] at hR)
      refine AWP.skip ?_
      refine AWP.seq ?_
      refine AWP.regS G_ok laws_FnExactLeastRest_DD hc (by kernel_rfl) (fun K hK => ?_); simp only [ea, gv, sv, D_laws_szDutyS, D_laws_toDutyS, D_laws_eqDutyS, D_spec_LeastRest, D_impl_LeastRest, reduceCtorEq, reduceIte, Nat.reduceBEq, Nat.reduceAdd, Nat.reduceEqDiff, Nat.reduceLT, Nat.reduceLeDiff, Nat.reduceMul, Nat.reduceSub, BEq.rfl, beq_self_eq_true, Int.reduceToNat]
      first | refine hK _ ?_ | refine ⟨by (first | trivial | omega | (simp only [ob, ln, bdv, laws_toDutyS_id, sv] at *; omega) | ((try clear hK K); (repeat' first | apply And.intro | intro _) <;> first | trivial | omega | assumption | solve_by_elim | (apply bd_getD <;> first | assumption | decide) | (apply bd_subL <;> first | assumption | decide) | (simp only [ob, ln, bdv, laws_toDutyS_id, sv] at *; first | omega | assumption | (simp_all; done) | grind))), hK _ ?_⟩
      clear hK K
      refine AWP.seq ?_
      refine AWP.regS G_ok laws_FnExactLeastRest_DD hc (by kernel_rfl) (fun K hK => ?_); simp only [ea, gv, sv, D_laws_szDutyS, D_laws_toDutyS, D_laws_eqDutyS, D_spec_LeastRest, D_impl_LeastRest, reduceCtorEq, reduceIte, Nat.reduceBEq, Nat.reduceAdd, Nat.reduceEqDiff, Nat.reduceLT, Nat.reduceLeDiff, Nat.reduceMul, Nat.reduceSub, BEq.rfl, beq_self_eq_true, Int.reduceToNat]
      first | refine hK _ ?_ | refine ⟨by (first | trivial | omega | (simp only [ob, ln, bdv, laws_toDutyS_id, sv] at *; omega) | ((try clear hK K); (repeat' first | apply And.intro | intro _) <;> first | trivial | omega | assumption | solve_by_elim | (apply bd_getD <;> first | assumption | decide) | (apply bd_subL <;> first | assumption | decide) | (simp only [ob, ln, bdv, laws_toDutyS_id, sv] at *; first | omega | assumption | (simp_all; done) | grind))), hK _ ?_⟩
      clear hK K
      refine AWP.seq ?_
      refine AWP.regS G_ok laws_FnExactLeastRest_DD hc (by kernel_rfl) (fun K hK => ?_); simp only [ea, gv, sv, D_laws_szDutyS, D_laws_toDutyS, D_laws_eqDutyS, D_spec_LeastRest, D_impl_LeastRest, reduceCtorEq, reduceIte, Nat.reduceBEq, Nat.reduceAdd, Nat.reduceEqDiff, Nat.reduceLT, Nat.reduceLeDiff, Nat.reduceMul, Nat.reduceSub, BEq.rfl, beq_self_eq_true, Int.reduceToNat]
      first | refine hK _ ?_ | refine ⟨by (first | trivial | omega | (simp only [ob, ln, bdv, laws_toDutyS_id, sv] at *; omega) | ((try clear hK K); (repeat' first | apply And.intro | intro _) <;> first | trivial | omega | assumption | solve_by_elim | (apply bd_getD <;> first | assumption | decide) | (apply bd_subL <;> first | assumption | decide) | (simp only [ob, ln, bdv, laws_toDutyS_id, sv] at *; first | omega | assumption | (simp_all; done) | grind))), hK _ ?_⟩
      clear hK K
      refine AWP.seq ?_
      refine AWP.seq ?_
      refine AWP.regS G_ok laws_FnExactLeastRest_DD hc (by kernel_rfl) (fun K hK => ?_); simp only [ea, gv, sv, D_laws_szDutyS, D_laws_toDutyS, D_laws_eqDutyS, D_spec_LeastRest, D_impl_LeastRest, reduceCtorEq, reduceIte, Nat.reduceBEq, Nat.reduceAdd, Nat.reduceEqDiff, Nat.reduceLT, Nat.reduceLeDiff, Nat.reduceMul, Nat.reduceSub, BEq.rfl, beq_self_eq_true, Int.reduceToNat]
      first | refine hK _ ?_ | refine ⟨by (first | trivial | omega | (simp only [ob, ln, bdv, laws_toDutyS_id, sv] at *; omega) | ((try clear hK K); (repeat' first | apply And.intro | intro _) <;> first | trivial | omega | assumption | solve_by_elim | (apply bd_getD <;> first | assumption | decide) | (apply bd_subL <;> first | assumption | decide) | (simp only [ob, ln, bdv, laws_toDutyS_id, sv] at *; first | omega | assumption | (simp_all; done) | grind))), hK _ ?_⟩
      clear hK K
      refine AWP.cond rfl (fun hb => ?_) (fun hb => ?_)
      · first | simp only [hb, cond_true] at hR | (simp only [*] at hb; simp only [hb, cond_true] at hR)
        refine AWP.seq ?_
        refine AWP.regS G_ok laws_FnExactLeastRest_DD hc (by kernel_rfl) (fun K hK => ?_); simp only [ea, gv, sv, D_laws_szDutyS, D_laws_toDutyS, D_laws_eqDutyS, D_spec_LeastRest, D_impl_LeastRest, reduceCtorEq, reduceIte, Nat.reduceBEq, Nat.reduceAdd, Nat.reduceEqDiff, Nat.reduceLT, Nat.reduceLeDiff, Nat.reduceMul, Nat.reduceSub, BEq.rfl, beq_self_eq_true, Int.reduceToNat]
        first | refine hK _ ?_ | refine ⟨by (first | trivial | omega | (simp only [ob, ln, bdv, laws_toDutyS_id, sv] at *; omega) | ((try clear hK K); (repeat' first | apply And.intro | intro _) <;> first | trivial | omega | assumption | solve_by_elim | (apply bd_getD <;> first | assumption | decide) | (apply bd_subL <;> first | assumption | decide) | (simp only [ob, ln, bdv, laws_toDutyS_id, sv] at *; first | omega | assumption | (simp_all; done) | grind))), hK _ ?_⟩
        clear hK K
        refine AWP.ret ?_
        subst hR
        (simp only [en, si, ea, gv, sv, hk, reduceCtorEq, reduceIte, Nat.reduceBEq, Nat.reduceAdd, Nat.reduceEqDiff, Nat.reduceLT, Nat.reduceLeDiff, Nat.reduceMul, Nat.reduceSub, BEq.rfl, beq_self_eq_true, Int.reduceToNat]; first | done | trivial | (and_intros <;> first | rfl | trivial | omega | (rw [IntKind.wrap_i64]; omega) | (simp only [ln]; done) | (simp only [ob, ln, bdv, laws_toDutyS_id, sv] at *; first | omega | grind) | (left; intro j hj; simp only [pw, Bool.cond_eq_ite, Bool.and_eq_true, decide_eq_true_eq]; (repeat' split) <;> simp [putL, NoBorL, NoBor]) | (intro j hj; simp only [pw, Bool.cond_eq_ite, Bool.and_eq_true, decide_eq_true_eq]; (try rw [subL_getD _ _ _ _ (by first | assumption | omega)]); (try rw [clearL_getD _ _ _ _ (by first | omega | (simp only [ob, ln, bdv] at *; omega))]); (repeat' split) <;> first | rfl | omega | exact simOL_refl _ | (simp_all; done) | (simp_all; rfl) | (simp_all; omega) | (simp_all; exact simOL_refl _) | (simp [putL, NoBorL, NoBor]; done))))
      · first | simp only [hb, cond_false] at hR | (simp only [*] at hb; simp only [hb, cond_false] at hR)
        refine AWP.skip ?_
        refine AWP.seq ?_
        refine AWP.seq ?_
        refine AWP.regS G_ok laws_FnExactLeastRest_DD hc (by kernel_rfl) (fun K hK => ?_); simp only [ea, gv, sv, D_laws_szDutyS, D_laws_toDutyS, D_laws_eqDutyS, D_spec_LeastRest, D_impl_LeastRest, reduceCtorEq, reduceIte, Nat.reduceBEq, Nat.reduceAdd, Nat.reduceEqDiff, Nat.reduceLT, Nat.reduceLeDiff, Nat.reduceMul, Nat.reduceSub, BEq.rfl, beq_self_eq_true, Int.reduceToNat]
        first | refine hK _ ?_ | refine ⟨by (first | trivial | omega | (simp only [ob, ln, bdv, laws_toDutyS_id, sv] at *; omega) | ((try clear hK K); (repeat' first | apply And.intro | intro _) <;> first | trivial | omega | assumption | solve_by_elim | (apply bd_getD <;> first | assumption | decide) | (apply bd_subL <;> first | assumption | decide) | (simp only [ob, ln, bdv, laws_toDutyS_id, sv] at *; first | omega | assumption | (simp_all; done) | grind))), hK _ ?_⟩
        clear hK K
        refine AWP.cond rfl (fun hb => ?_) (fun hb => ?_)
        · first | simp only [hb, cond_true] at hR | (simp only [*] at hb; simp only [hb, cond_true] at hR)
          refine AWP.seq ?_
          refine AWP.regS G_ok laws_FnExactLeastRest_DD hc (by kernel_rfl) (fun K hK => ?_); simp only [ea, gv, sv, D_laws_szDutyS, D_laws_toDutyS, D_laws_eqDutyS, D_spec_LeastRest, D_impl_LeastRest, reduceCtorEq, reduceIte, Nat.reduceBEq, Nat.reduceAdd, Nat.reduceEqDiff, Nat.reduceLT, Nat.reduceLeDiff, Nat.reduceMul, Nat.reduceSub, BEq.rfl, beq_self_eq_true, Int.reduceToNat]
          first | refine hK _ ?_ | refine ⟨by (first | trivial | omega | (simp only [ob, ln, bdv, laws_toDutyS_id, sv] at *; omega) | ((try clear hK K); (repeat' first | apply And.intro | intro _) <;> first | trivial | omega | assumption | solve_by_elim | (apply bd_getD <;> first | assumption | decide) | (apply bd_subL <;> first | assumption | decide) | (simp only [ob, ln, bdv, laws_toDutyS_id, sv] at *; first | omega | assumption | (simp_all; done) | grind))), hK _ ?_⟩
          clear hK K
          refine AWP.ret ?_
          subst hR
          (simp only [en, si, ea, gv, sv, hk, reduceCtorEq, reduceIte, Nat.reduceBEq, Nat.reduceAdd, Nat.reduceEqDiff, Nat.reduceLT, Nat.reduceLeDiff, Nat.reduceMul, Nat.reduceSub, BEq.rfl, beq_self_eq_true, Int.reduceToNat]; first | done | trivial | (and_intros <;> first | rfl | trivial | omega | (rw [IntKind.wrap_i64]; omega) | (simp only [ln]; done) | (simp only [ob, ln, bdv, laws_toDutyS_id, sv] at *; first | omega | grind) | (left; intro j hj; simp only [pw, Bool.cond_eq_ite, Bool.and_eq_true, decide_eq_true_eq]; (repeat' split) <;> simp [putL, NoBorL, NoBor]) | (intro j hj; simp only [pw, Bool.cond_eq_ite, Bool.and_eq_true, decide_eq_true_eq]; (try rw [subL_getD _ _ _ _ (by first | assumption | omega)]); (try rw [clearL_getD _ _ _ _ (by first | omega | (simp only [ob, ln, bdv] at *; omega))]); (repeat' split) <;> first | rfl | omega | exact simOL_refl _ | (simp_all; done) | (simp_all; rfl) | (simp_all; omega) | (simp_all; exact simOL_refl _) | (simp [putL, NoBorL, NoBor]; done))))
        · first | simp only [hb, cond_false] at hR | (simp only [*] at hb; simp only [hb, cond_false] at hR)
          refine AWP.skip ?_
          refine AWP.seq ?_
          refine AWP.regS G_ok laws_FnExactLeastRest_DD hc (by kernel_rfl) (fun K hK => ?_); simp only [ea, gv, sv, D_laws_szDutyS, D_laws_toDutyS, D_laws_eqDutyS, D_spec_LeastRest, D_impl_LeastRest, reduceCtorEq, reduceIte, Nat.reduceBEq, Nat.reduceAdd, Nat.reduceEqDiff, Nat.reduceLT, Nat.reduceLeDiff, Nat.reduceMul, Nat.reduceSub, BEq.rfl, beq_self_eq_true, Int.reduceToNat]
          first | refine hK _ ?_ | refine ⟨by (first | trivial | omega | (simp only [ob, ln, bdv, laws_toDutyS_id, sv] at *; omega) | ((try clear hK K); (repeat' first | apply And.intro | intro _) <;> first | trivial | omega | assumption | solve_by_elim | (apply bd_getD <;> first | assumption | decide) | (apply bd_subL <;> first | assumption | decide) | (simp only [ob, ln, bdv, laws_toDutyS_id, sv] at *; first | omega | assumption | (simp_all; done) | grind))), hK _ ?_⟩
          clear hK K
          refine AWP.ret ?_
          subst hR
          (simp only [en, si, ea, gv, sv, hk, reduceCtorEq, reduceIte, Nat.reduceBEq, Nat.reduceAdd, Nat.reduceEqDiff, Nat.reduceLT, Nat.reduceLeDiff, Nat.reduceMul, Nat.reduceSub, BEq.rfl, beq_self_eq_true, Int.reduceToNat]; first | done | trivial | (and_intros <;> first | rfl | trivial | omega | (rw [IntKind.wrap_i64]; omega) | (simp only [ln]; done) | (simp only [ob, ln, bdv, laws_toDutyS_id, sv] at *; first | omega | grind) | (left; intro j hj; simp only [pw, Bool.cond_eq_ite, Bool.and_eq_true, decide_eq_true_eq]; (repeat' split) <;> simp [putL, NoBorL, NoBor]) | (intro j hj; simp only [pw, Bool.cond_eq_ite, Bool.and_eq_true, decide_eq_true_eq]; (try rw [subL_getD _ _ _ _ (by first | assumption | omega)]); (try rw [clearL_getD _ _ _ _ (by first | omega | (simp only [ob, ln, bdv] at *; omega))]); (repeat' split) <;> first | rfl | omega | exact simOL_refl _ | (simp_all; done) | (simp_all; rfl) | (simp_all; omega) | (simp_all; exact simOL_refl _) | (simp [putL, NoBorL, NoBor]; done))))

def D_laws_FnExactLeastRest : DF
  | [x0, x1] => some (.bool (laws_FnExactLeastRest (rdL dDuty x0) (rdS x1)), false, [wL 3 eDuty dDuty x0, wS x1, (rdL dDuty x0).length < 9223372036854775808, ∀ v ∈ (rdL dDuty x0), bwDuty v, (rdS x1).length < 9223372036854775808])
  | _ => none
theorem D_laws_FnExactLeastRest_ok : OkD Try.prog 12 D_laws_FnExactLeastRest := by
  intro xs r z ob h ho
  unfold D_laws_FnExactLeastRest at h
  split at h
  · simp only [Option.some.injEq, Prod.mk.injEq] at h
    obtain ⟨rfl, rfl, rfl⟩ := h
    obtain ⟨h0, h1, hb0, hb1, hb2, _⟩ := ho
    exact Den.sim (laws_FnExactLeastRest_den _ _ hb0 hb1 hb2) (simOL_cons (wL_sim h0).1 <| simOL_cons (wS_sim h1).1 <| trivial) (noIdL_cons (wL_sim h0).2 <| noIdL_cons (wS_sim h1).2 <| rfl) rfl
  · cases h
end Go.Ab

namespace Go.Ab
open Go Go.Proofs
theorem dutiesOf_eq (a : List Duty) (k : List UInt8) (hl : a.length < 1099511627776) : impl_dutiesOf a k = spec_l28Of a k := by
  unfold impl_dutiesOf spec_l28Of
  rw [impl_clone_Duty_id, slices_DeleteFunc_Duty__impl_dutiesOf_1_eq a k hl, loopR_filter (fun d : Duty => d.Keeper == k) a (b := spec_l28Of_b1 a k) (fun i s => rfl)]
  have e : (fun x => !(impl_dutiesOf_1 x k)) = (fun d : Duty => d.Keeper == k) := by
    funext d
    simp only [impl_dutiesOf_1, bne, Bool.not_not]
  rw [e]
theorem leastRest_eq (a : List Duty) (k : List UInt8) (hl : a.length < 1099511627776) : impl_LeastRest a k = spec_LeastRest a k := by
  unfold impl_LeastRest spec_LeastRest
  have h := validDuties_eq a
  unfold spec_ValidDuties at h
  rw [h, dutiesOf_eq a k hl]
  cases hv : spec_l28Ok a with
  | false => rfl
  | true =>
    simp only [Bool.not_true, cond_false]
    cases h2 : decide (((spec_l28Of a k).length : Int) < 2) with
    | true => rfl
    | false =>
      simp only [cond_false]
      have h3 := of_decide_eq_false h2
      obtain ⟨n, hn⟩ : ∃ n, (spec_l28Of a k).length = n + 2 := ⟨(spec_l28Of a k).length - 2, by omega⟩
      rw [hn]
      have e1 : n + 2 - 1 = n + 1 := by omega
      have e2 : n + 2 - 2 = n := by omega
      rw [e1, e2]
      have hb : ∀ i s, impl_LeastRest_b1 a k i s = spec_LeastRest_b1 a k i s := by
        intro i s
        simp only [impl_LeastRest_b1, spec_LeastRest_b1, dutiesOf_eq a k hl, spec_l00Min, Bool.cond_eq_ite, decide_eq_true_eq]
        congr 1
        split <;> split <;> omega
      simp only [loopR]
      have h0 : impl_LeastRest_b1 a k 1 (IntKind.wrap .i64 ((((spec_l28Of a k).getD 1 default).From) - (((spec_l28Of a k).getD 0 default).Until))) = .ok (IntKind.wrap .i64 ((((spec_l28Of a k).getD 1 default).From) - (((spec_l28Of a k).getD 0 default).Until))) := by
        simp only [impl_LeastRest_b1, dutiesOf_eq a k hl]
        have e : (IntKind.wrap .i64 (((1 : Nat) : Int) - 1)).toNat = 0 := by rw [IntKind.wrap_i64]; rfl
        rw [e]
        congr 1
        split <;> rfl
      rw [h0]
      simp only
      have hf : impl_LeastRest_b1 a k = spec_LeastRest_b1 a k := by funext i s; exact hb i s
      rw [hf]
      all_goals rfl
theorem law_LeastRest (a : List Duty) (k : List UInt8) (hl : a.length < 9223372036854775808) (hb : ∀ v ∈ a, bwDuty v) (hk : k.length < 9223372036854775808) : laws_FnExactLeastRest a k = true := by
  unfold laws_FnExactLeastRest
  have hf := laws_szDutyS_facts a 1048576 (by omega) (by omega) hl hb
  simp only [laws_toDutyS_id, laws_eqDutyS_dec]
  by_cases hk2 : (1048576 : Int) < k.length
  · simp [hk2]
  · by_cases h : laws_szDutyS a 1048576 < 0
    · simp [hk2, h]
    · have := (hf.2.2 h).1
      rw [leastRest_eq a k (by omega)]
      simp [hk2, h]
end Go.Ab

namespace Go.Ab
open Go Go.Proofs Go.Deep Go.Joins Go.ChangeShapes Go.WideShapes Go.ChangeAt Go.RowKit
theorem Duty_cells {H : Type} {enc : TypeId × Value → H} {W : World} {base : Nat} {sp : Nat → Bool} {hd : Bool} {fuel : Nat} {cs : List Value} {x : DataW H × List MemPlace}
    (h : DataW.trod enc Try.prog W base sp hd fuel 102 cs = some x) : ∃ v : Duty, cs = [.string ⟨v.Keeper.toArray⟩, .int .i64 v.From, .int .i64 v.Until] ∧ bwDuty v := by
  obtain ⟨y0, y1, y2, n, _, hl, h0, h1, h2⟩ := trod_struct3 Try.underlying102 h
  have e0 : Try.prog.cellsOf 102 = 3 := by kernel_rfl
  have e2 : Try.prog.cellsOf 2 = 1 := by kernel_rfl
  have e9 : Try.prog.cellsOf 9 = 1 := by kernel_rfl
  simp only [e0, e2, e9] at hl h0 h1 h2
  match cs, hl with
  | [c0, c1, c2], _ =>
    obtain ⟨n0, q0, _, w0⟩ := DataW.trod_string Try.underlying9 h0
    obtain ⟨n1, q1, _⟩ := DataW.trod_int Try.underlying2 h1
    obtain ⟨n2, q2, _⟩ := DataW.trod_int Try.underlying2 h2
    simp at q0 q1 q2
    subst q0
    subst q1
    subst q2
    refine ⟨⟨n0.data.toList, n1, n2⟩, rfl, ?_⟩
    simp only [bwDuty, bwS]
    have e : maxLen = 9223372036854775807 := by decide
    have z0 : n0.data.toList.length = n0.size := Array.length_toList
    omega

set_option maxRecDepth 100000 in
theorem Duty_list {H : Type} {enc : TypeId × Value → H} {W : World} {base : Nat} {v : Value} {d : DataW H} {ps : List MemPlace} (hval : Value.okWide Try.prog W .any base 50 v) (h : DataW.Trod enc Try.prog W 0 (fun _ => true) true 50 v d ps) :
    ∃ a : List Duty, a.length < 9223372036854775808 ∧ (∀ x ∈ a, bwDuty x) ∧ Rep W (fun _ => False) (encL 3 eDuty a) noMap v [] := by
  obtain ⟨fuel, h⟩ := h
  obtain ⟨oa, len, cap, rfl⟩ := okWide_slice Try.underlying50 hval
  have e33 : Try.prog.cellsOf 102 = 3 := by kernel_rfl
  rcases open_slice Try.underlying50 h with ⟨h1, _⟩ | ⟨a, len', cap', m, n, D, Pl, h1, hb, hl, hm, hme, _, hel⟩
  · simp [Value.cells] at h1
    obtain ⟨rfl, rfl, rfl⟩ := h1
    exact ⟨[], Nat.lt_of_lt_of_le (Nat.zero_lt_one) (by omega), by simp, by simp [encL, Rep]⟩
  · simp [Value.cells] at h1
    obtain ⟨rfl, rfl, rfl⟩ := h1
    simp only [if_true] at hme
    subst hme
    have hhas : a.spot = none ∧ a.block < W.heap.size := by
      simp only [Value.okWide, Try.underlying50, Cell.okWide, Cell.ok, World.has] at hval
      obtain ⟨_, _, _, h4, row, cells, h5, _⟩ := hval
      refine ⟨h4, ?_⟩
      rcases Nat.lt_or_ge a.block W.heap.size with h | h
      · exact h
      · simp [World.shape?, Array.getElem?_eq_none h] at h5
    obtain ⟨b, o, sp⟩ := a
    obtain ⟨rfl, hblt⟩ := hhas
    have hex : ∀ i, ∃ u : Duty, bwDuty u ∧ (i < len → ∀ j x, [Value.string ⟨u.Keeper.toArray⟩, .int .i64 u.From, .int .i64 u.Until][j]? = some x → W.cell? ⟨b, o + i * 3 + j, none⟩ = some x ∧ x.oneCell' = true) := by
      intro i
      by_cases hi : i < len
      · obtain ⟨cs, hc, ht⟩ := hel i (by omega)
        obtain ⟨u, rfl, hbu⟩ := Duty_cells ht
        refine ⟨u, hbu, fun _ j x hx => ?_⟩
        obtain ⟨_, _, hc3⟩ := World.cells?_some hc
        rw [e33] at hc3
        have hj : j < 3 := by
          rcases Nat.lt_or_ge j 3 with h | h
          · exact h
          · rw [List.getElem?_eq_none (by simpa using h)] at hx; cases hx
        have := hc3 j hj
        rw [hx] at this
        rw [Addr.add_lit, Addr.add_lit] at this
        refine ⟨this, ?_⟩
        match j, hj with
        | 0, _ => simp at hx; subst hx; rfl
        | 1, _ => simp at hx; subst hx; rfl
        | 2, _ => simp at hx; subst hx; rfl
      · exact ⟨default, by decide, fun h => absurd h hi⟩
    obtain ⟨g, hg⟩ := Classical.axiomOfChoice hex
    refine ⟨(List.range len).map g, ?_, ?_, ?_⟩
    · simp only [List.length_map, List.length_range]
      have : maxLen = 9223372036854775807 := by decide
      omega
    · intro x hx
      obtain ⟨i, _, rfl⟩ := List.mem_map.1 hx
      exact (hg i).1
    · simp only [encL, Rep]
      refine .inr ⟨b, o, m, fun i => [Value.string ⟨(g i).Keeper.toArray⟩, .int .i64 (g i).From, .int .i64 (g i).Until], fun _ => [], by simp, by simpa using hl, hblt, ?_, by simp, trivial, by simp⟩
      intro i hi
      simp at hi
      have : ((List.range len).map g).getD i default = g i := by simp [List.getD_eq_getElem?_getD, hi]
      rw [this]
      refine ⟨?_, rfl, fun j u hu => (hg i).2 hi j u hu⟩
      simp only [eDuty, RepL, Rep]
      exact ⟨_, _, [], [], rfl, rfl, ⟨rfl, rfl⟩, _, _, [], [], rfl, rfl, ⟨rfl, rfl⟩, _, _, [], [], rfl, rfl, ⟨rfl, rfl⟩, rfl, rfl⟩
end Go.Ab
