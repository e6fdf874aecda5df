/- A part of a proof: walks of functions and lemmas of our own. No conditions. -/
import Derived.Test.YtphjpngpmhammaaTAj
import Derived.Test.YtphjpngpmhammaaTAn
import Derived.Test.YtphjpngpmhammaaTAm
set_option linter.unusedSectionVars false
set_option linter.unusedVariables false
set_option linter.unusedSimpArgs false
namespace Go.Ab
open Go Go.Proofs
theorem spec_l29Stock_DD : DOk Try.prog (DD [(120, dP D_spec_l00Min), (121, dP D_spec_l00Max)]) := DD_cons D_spec_l00Min_ok.e <| DD_cons D_spec_l00Max_ok.e <| DD_nil _
def spec_l29Stock_b1 (a0 : Store) (a1 : (List UInt8)) (a2 : Int) (i1 : Nat) (s1 : Int) : Except ((Int × Int × Int)) (Int) :=
  (bif ((((a0.Entries.getD i1 default).Item) == a1) && decide (((a0.Entries.getD i1 default).Day) ≤ a2)) then .ok (IntKind.wrap .i64 (s1 + ((a0.Entries.getD i1 default).Amount))) else .ok s1)
def spec_l29Stock_b2 (a0 : Store) (a1 : (List UInt8)) (a2 : Int) (s1 : Int) (i2 : Nat) (s2 : Int × Int × Int) : Except ((Int × Int × Int)) (Int × Int × Int) :=
  (bif ((((a0.Entries.getD i2 default).Item) == a1) && decide (a2 < ((a0.Entries.getD i2 default).Day))) then .ok (IntKind.wrap .i64 (s2.1 + ((a0.Entries.getD i2 default).Amount)), (spec_l00Min s2.2.1 (IntKind.wrap .i64 (s2.1 + ((a0.Entries.getD i2 default).Amount)))), (spec_l00Max s2.2.2 (IntKind.wrap .i64 (s2.1 + ((a0.Entries.getD i2 default).Amount))))) else .ok (s2.1, s2.2.1, s2.2.2))
def spec_l29Stock (a0 : Store) (a1 : (List UInt8)) (a2 : Int) : (Int × Int × Int) :=
  (match loopR (spec_l29Stock_b1 a0 a1 a2) (a0.Entries.length - 0) 0 0 with | .error e => e | .ok s1 => (match loopR (spec_l29Stock_b2 a0 a1 a2 s1) (a0.Entries.length - 0) 0 (s1, s1, s1) with | .error e => e | .ok s2 => (s1, s2.2.1, s2.2.2)))
theorem spec_l29Stock_den (a0 : Store) (a1 : (List UInt8)) (a2 : Int)  : Den Try.prog 86 [.ep (eStore a0), .str a1, .int .i64 a2] (.tup [.int .i64 ((spec_l29Stock a0 a1 a2).1), .int .i64 ((spec_l29Stock a0 a1 a2).2.1), .int .i64 ((spec_l29Stock a0 a1 a2).2.2)]) := by
  generalize hR : spec_l29Stock a0 a1 a2 = r
  unfold spec_l29Stock at hR
  refine den_intro G_ok Try.func86 (by kernel_rfl) rfl Try.ntmps86 (by rw [Try.results86]) (by simp) rfl ?_
  intro c hL hc hk
  obtain ⟨hL0, hL1, hL2, _⟩ := hL
  have hw0 : bwStore a0 := Store_lens a0 hL0
  have hw1 : a1.length < 9223372036854775808 := Nat.lt_succ_of_le hL1
  clear hL0 hL1 hL2
  simp only [pars, Nat.zero_add]
  refine AWP.seq ?_
  refine AWP.regS G_ok spec_l29Stock_DD hc (by kernel_rfl) (fun K hK => ?_); simp only [ea, gv, sv, D_spec_l00Min, D_spec_l00Max, reduceCtorEq, reduceIte, Nat.reduceBEq, Nat.reduceAdd, Nat.reduceEqDiff, Nat.reduceLT, Nat.reduceLeDiff, Nat.reduceMul, Nat.reduceSub, BEq.rfl, beq_self_eq_true, Int.reduceToNat]
  (refine hK _ ?_)
  clear hK K
  refine AWP.seq ?_
  refine AWP.regS G_ok spec_l29Stock_DD hc (by kernel_rfl) (fun K hK => ?_); simp only [ea, gv, sv, D_spec_l00Min, D_spec_l00Max, reduceCtorEq, reduceIte, Nat.reduceBEq, Nat.reduceAdd, Nat.reduceEqDiff, Nat.reduceLT, Nat.reduceLeDiff, Nat.reduceMul, Nat.reduceSub, BEq.rfl, beq_self_eq_true, Int.reduceToNat]
  (refine hK _ ?_)
  clear hK K
  refine AWP.seq ?_
  refine AWP.seq ?_
  refine AWP.regS G_ok spec_l29Stock_DD hc (by kernel_rfl) (fun K hK => ?_); simp only [ea, gv, sv, D_spec_l00Min, D_spec_l00Max, reduceCtorEq, reduceIte, Nat.reduceBEq, Nat.reduceAdd, Nat.reduceEqDiff, Nat.reduceLT, Nat.reduceLeDiff, Nat.reduceMul, Nat.reduceSub, BEq.rfl, beq_self_eq_true, Int.reduceToNat]
  (refine hK _ ?_)
  clear hK K
  refine AWP.block ?_
  generalize hz1 : loopR (spec_l29Stock_b1 a0 a1 a2) (a0.Entries.length - 0) 0 0 = z1 at hR
  refine AWP.range (spec_l29Stock_b1 a0 a1 a2) (fun i1 s1 => ⟨[(0, .ep (eStore a0)), (1, .str a1), (2, .int .i64 a2), (9, .int .i64 s1), (10, .int .i64 (i1 : Int))], []⟩) (fun i1 s1 => True) (a0.Entries.length) 0 0 [] hz1 (by (omega)) (by (trivial)) (by (simp only [si, ea, gv, sv, hk, reduceCtorEq, reduceIte, Nat.reduceBEq, Nat.reduceAdd, Nat.reduceEqDiff, Nat.reduceLT, Nat.reduceLeDiff, Nat.reduceMul, Nat.reduceSub, BEq.rfl, beq_self_eq_true, Int.reduceToNat]; trivial)) ?_
  clear hz1
  intro i1 s1 hi1 hW1 hz1
  refine AWP.seq ?_
  refine AWP.seq ?_
  refine AWP.regS G_ok spec_l29Stock_DD hc (by kernel_rfl) (fun K hK => ?_); simp only [ea, gv, sv, D_spec_l00Min, D_spec_l00Max, reduceCtorEq, reduceIte, Nat.reduceBEq, Nat.reduceAdd, Nat.reduceEqDiff, Nat.reduceLT, Nat.reduceLeDiff, Nat.reduceMul, Nat.reduceSub, BEq.rfl, beq_self_eq_true, Int.reduceToNat]
  (refine hK _ ?_)
  clear hK K
  refine AWP.cond rfl (fun hb => ?_) (fun hb => ?_)
  · have hlt1 : i1 < a0.Entries.length := by ((simp only [ob, ln, bdv, sv] at *; omega))
    rw [loopR_lt hlt1] at hz1; simp only [spec_l29Stock_b1] at hz1
    refine AWP.skip ?_
    refine AWP.seq ?_
    refine AWP.block ?_
    refine AWP.seq ?_
    refine AWP.regS G_ok spec_l29Stock_DD hc (by kernel_rfl) (fun K hK => ?_); simp only [ea, gv, sv, D_spec_l00Min, D_spec_l00Max, reduceCtorEq, reduceIte, Nat.reduceBEq, Nat.reduceAdd, Nat.reduceEqDiff, Nat.reduceLT, Nat.reduceLeDiff, Nat.reduceMul, Nat.reduceSub, BEq.rfl, beq_self_eq_true, Int.reduceToNat]
    (refine ⟨by (omega), hK _ ?_⟩)
    clear hK K
    refine AWP.cond rfl (fun hb => ?_) (fun hb => ?_)
    · (simp only [hb, cond_true] at hz1)
      refine AWP.regS G_ok spec_l29Stock_DD hc (by kernel_rfl) (fun K hK => ?_); simp only [ea, gv, sv, D_spec_l00Min, D_spec_l00Max, reduceCtorEq, reduceIte, Nat.reduceBEq, Nat.reduceAdd, Nat.reduceEqDiff, Nat.reduceLT, Nat.reduceLeDiff, Nat.reduceMul, Nat.reduceSub, BEq.rfl, beq_self_eq_true, Int.reduceToNat]
      (refine ⟨by (omega), hK _ ?_⟩)
      clear hK K
      refine AWP.regS G_ok spec_l29Stock_DD hc (by kernel_rfl) (fun K hK => ?_); simp only [ea, gv, sv, D_spec_l00Min, D_spec_l00Max, reduceCtorEq, reduceIte, Nat.reduceBEq, Nat.reduceAdd, Nat.reduceEqDiff, Nat.reduceLT, Nat.reduceLeDiff, Nat.reduceMul, Nat.reduceSub, BEq.rfl, beq_self_eq_true, Int.reduceToNat]
      (refine hK _ ?_)
      clear hK K
      exact ⟨_, [], hlt1, by (trivial), hz1, by (simp only [si, ea, gv, sv, hk, reduceCtorEq, reduceIte, Nat.reduceBEq, Nat.reduceAdd, Nat.reduceEqDiff, Nat.reduceLT, Nat.reduceLeDiff, Nat.reduceMul, Nat.reduceSub, BEq.rfl, beq_self_eq_true, Int.reduceToNat]; (and_intros <;> first | trivial | (simp only [ob, ln, bdv, sv] at *; omega)))⟩
    · (simp only [hb, cond_false] at hz1)
      refine AWP.skip ?_
      refine AWP.regS G_ok spec_l29Stock_DD hc (by kernel_rfl) (fun K hK => ?_); simp only [ea, gv, sv, D_spec_l00Min, D_spec_l00Max, reduceCtorEq, reduceIte, Nat.reduceBEq, Nat.reduceAdd, Nat.reduceEqDiff, Nat.reduceLT, Nat.reduceLeDiff, Nat.reduceMul, Nat.reduceSub, BEq.rfl, beq_self_eq_true, Int.reduceToNat]
      (refine hK _ ?_)
      clear hK K
      exact ⟨_, [], hlt1, by (trivial), hz1, by (simp only [si, ea, gv, sv, hk, reduceCtorEq, reduceIte, Nat.reduceBEq, Nat.reduceAdd, Nat.reduceEqDiff, Nat.reduceLT, Nat.reduceLeDiff, Nat.reduceMul, Nat.reduceSub, BEq.rfl, beq_self_eq_true, Int.reduceToNat]; (and_intros <;> first | trivial | (simp only [ob, ln, bdv, sv] at *; omega)))⟩
  · obtain rfl : i1 = a0.Entries.length := by ((simp only [ob, ln, bdv, sv] at *; omega))
    rw [loopR_ge (Nat.le_refl _)] at hz1; subst hz1; dsimp only at hR
    refine AWP.exit ?_; refine exitTo_here ?_
    refine AWP.seq ?_
    refine AWP.regS G_ok spec_l29Stock_DD hc (by kernel_rfl) (fun K hK => ?_); simp only [ea, gv, sv, D_spec_l00Min, D_spec_l00Max, reduceCtorEq, reduceIte, Nat.reduceBEq, Nat.reduceAdd, Nat.reduceEqDiff, Nat.reduceLT, Nat.reduceLeDiff, Nat.reduceMul, Nat.reduceSub, BEq.rfl, beq_self_eq_true, Int.reduceToNat]
    (refine hK _ ?_)
    clear hK K
    refine AWP.seq ?_
    refine AWP.regS G_ok spec_l29Stock_DD hc (by kernel_rfl) (fun K hK => ?_); simp only [ea, gv, sv, D_spec_l00Min, D_spec_l00Max, reduceCtorEq, reduceIte, Nat.reduceBEq, Nat.reduceAdd, Nat.reduceEqDiff, Nat.reduceLT, Nat.reduceLeDiff, Nat.reduceMul, Nat.reduceSub, BEq.rfl, beq_self_eq_true, Int.reduceToNat]
    (refine hK _ ?_)
    clear hK K
    refine AWP.seq ?_
    refine AWP.regS G_ok spec_l29Stock_DD hc (by kernel_rfl) (fun K hK => ?_); simp only [ea, gv, sv, D_spec_l00Min, D_spec_l00Max, reduceCtorEq, reduceIte, Nat.reduceBEq, Nat.reduceAdd, Nat.reduceEqDiff, Nat.reduceLT, Nat.reduceLeDiff, Nat.reduceMul, Nat.reduceSub, BEq.rfl, beq_self_eq_true, Int.reduceToNat]
    (refine hK _ ?_)
    clear hK K
    refine AWP.seq ?_
    refine AWP.seq ?_
    refine AWP.regS G_ok spec_l29Stock_DD hc (by kernel_rfl) (fun K hK => ?_); simp only [ea, gv, sv, D_spec_l00Min, D_spec_l00Max, reduceCtorEq, reduceIte, Nat.reduceBEq, Nat.reduceAdd, Nat.reduceEqDiff, Nat.reduceLT, Nat.reduceLeDiff, Nat.reduceMul, Nat.reduceSub, BEq.rfl, beq_self_eq_true, Int.reduceToNat]
    (refine hK _ ?_)
    clear hK K
    refine AWP.block ?_
    refine AWP.lensS 19 rfl (fun hLn2 => ?_)
    generalize hz2 : loopR (spec_l29Stock_b2 a0 a1 a2 s1) (a0.Entries.length - 0) 0 (s1, s1, s1) = z2 at hR
    refine AWP.range (spec_l29Stock_b2 a0 a1 a2 s1) (fun i2 s2 => ⟨[(0, .ep (eStore a0)), (1, .str a1), (2, .int .i64 a2), (9, .int .i64 s2.1), (11, .int .i64 s1), (12, .int .i64 s2.2.1), (13, .int .i64 s2.2.2), (14, .int .i64 (i2 : Int))], []⟩) (fun i2 s2 => True) (a0.Entries.length) 0 (s1, s1, s1) [] hz2 (by (omega)) (by (trivial)) (by (simp only [si, ea, gv, sv, hk, reduceCtorEq, reduceIte, Nat.reduceBEq, Nat.reduceAdd, Nat.reduceEqDiff, Nat.reduceLT, Nat.reduceLeDiff, Nat.reduceMul, Nat.reduceSub, BEq.rfl, beq_self_eq_true, Int.reduceToNat]; trivial)) ?_
    clear hz2
    intro i2 s2 hi2 hW2 hz2
    refine AWP.seq ?_
    refine AWP.seq ?_
    refine AWP.regS G_ok spec_l29Stock_DD hc (by kernel_rfl) (fun K hK => ?_); simp only [ea, gv, sv, D_spec_l00Min, D_spec_l00Max, reduceCtorEq, reduceIte, Nat.reduceBEq, Nat.reduceAdd, Nat.reduceEqDiff, Nat.reduceLT, Nat.reduceLeDiff, Nat.reduceMul, Nat.reduceSub, BEq.rfl, beq_self_eq_true, Int.reduceToNat]
    (refine hK _ ?_)
    clear hK K
    refine AWP.cond rfl (fun hb => ?_) (fun hb => ?_)
    · have hlt2 : i2 < a0.Entries.length := by ((simp only [ob, ln, bdv, sv] at *; omega))
      rw [loopR_lt hlt2] at hz2; simp only [spec_l29Stock_b2] at hz2
      refine AWP.skip ?_
      refine AWP.seq ?_
      refine AWP.block ?_
      refine AWP.seq ?_
      refine AWP.regS G_ok spec_l29Stock_DD hc (by kernel_rfl) (fun K hK => ?_); simp only [ea, gv, sv, D_spec_l00Min, D_spec_l00Max, reduceCtorEq, reduceIte, Nat.reduceBEq, Nat.reduceAdd, Nat.reduceEqDiff, Nat.reduceLT, Nat.reduceLeDiff, Nat.reduceMul, Nat.reduceSub, BEq.rfl, beq_self_eq_true, Int.reduceToNat]
      (refine ⟨by (omega), hK _ ?_⟩)
      clear hK K
      refine AWP.cond rfl (fun hb => ?_) (fun hb => ?_)
      · (simp only [hb, cond_true] at hz2)
        refine AWP.seq ?_
        refine AWP.regS G_ok spec_l29Stock_DD hc (by kernel_rfl) (fun K hK => ?_); simp only [ea, gv, sv, D_spec_l00Min, D_spec_l00Max, reduceCtorEq, reduceIte, Nat.reduceBEq, Nat.reduceAdd, Nat.reduceEqDiff, Nat.reduceLT, Nat.reduceLeDiff, Nat.reduceMul, Nat.reduceSub, BEq.rfl, beq_self_eq_true, Int.reduceToNat]
        (refine ⟨by (omega), hK _ ?_⟩)
        clear hK K
        refine AWP.seq ?_
        refine AWP.regS G_ok spec_l29Stock_DD hc (by kernel_rfl) (fun K hK => ?_); simp only [ea, gv, sv, D_spec_l00Min, D_spec_l00Max, reduceCtorEq, reduceIte, Nat.reduceBEq, Nat.reduceAdd, Nat.reduceEqDiff, Nat.reduceLT, Nat.reduceLeDiff, Nat.reduceMul, Nat.reduceSub, BEq.rfl, beq_self_eq_true, Int.reduceToNat]
        (refine hK _ ?_)
        clear hK K
        refine AWP.regS G_ok spec_l29Stock_DD hc (by kernel_rfl) (fun K hK => ?_); simp only [ea, gv, sv, D_spec_l00Min, D_spec_l00Max, reduceCtorEq, reduceIte, Nat.reduceBEq, Nat.reduceAdd, Nat.reduceEqDiff, Nat.reduceLT, Nat.reduceLeDiff, Nat.reduceMul, Nat.reduceSub, BEq.rfl, beq_self_eq_true, Int.reduceToNat]
        (refine hK _ ?_)
        clear hK K
        refine AWP.regS G_ok spec_l29Stock_DD hc (by kernel_rfl) (fun K hK => ?_); simp only [ea, gv, sv, D_spec_l00Min, D_spec_l00Max, reduceCtorEq, reduceIte, Nat.reduceBEq, Nat.reduceAdd, Nat.reduceEqDiff, Nat.reduceLT, Nat.reduceLeDiff, Nat.reduceMul, Nat.reduceSub, BEq.rfl, beq_self_eq_true, Int.reduceToNat]
        (refine hK _ ?_)
        clear hK K
        exact ⟨_, [], hlt2, by (trivial), hz2, by (simp only [si, ea, gv, sv, hk, reduceCtorEq, reduceIte, Nat.reduceBEq, Nat.reduceAdd, Nat.reduceEqDiff, Nat.reduceLT, Nat.reduceLeDiff, Nat.reduceMul, Nat.reduceSub, BEq.rfl, beq_self_eq_true, Int.reduceToNat]; (and_intros <;> first | trivial | (rw [IntKind.wrap_i64]; omega)))⟩
      · (simp only [hb, cond_false] at hz2)
        refine AWP.skip ?_
        refine AWP.regS G_ok spec_l29Stock_DD hc (by kernel_rfl) (fun K hK => ?_); simp only [ea, gv, sv, D_spec_l00Min, D_spec_l00Max, reduceCtorEq, reduceIte, Nat.reduceBEq, Nat.reduceAdd, Nat.reduceEqDiff, Nat.reduceLT, Nat.reduceLeDiff, Nat.reduceMul, Nat.reduceSub, BEq.rfl, beq_self_eq_true, Int.reduceToNat]
        (refine hK _ ?_)
        clear hK K
        exact ⟨_, [], hlt2, by (trivial), hz2, by (simp only [si, ea, gv, sv, hk, reduceCtorEq, reduceIte, Nat.reduceBEq, Nat.reduceAdd, Nat.reduceEqDiff, Nat.reduceLT, Nat.reduceLeDiff, Nat.reduceMul, Nat.reduceSub, BEq.rfl, beq_self_eq_true, Int.reduceToNat]; (and_intros <;> first | trivial | (rw [IntKind.wrap_i64]; omega)))⟩
    · obtain rfl : i2 = a0.Entries.length := by ((simp only [ob, ln, bdv, sv] at *; omega))
      rw [loopR_ge (Nat.le_refl _)] at hz2; subst hz2; dsimp only at hR
      refine AWP.exit ?_; refine exitTo_here ?_
      refine AWP.seq ?_
      refine AWP.regS G_ok spec_l29Stock_DD hc (by kernel_rfl) (fun K hK => ?_); simp only [ea, gv, sv, D_spec_l00Min, D_spec_l00Max, reduceCtorEq, reduceIte, Nat.reduceBEq, Nat.reduceAdd, Nat.reduceEqDiff, Nat.reduceLT, Nat.reduceLeDiff, Nat.reduceMul, Nat.reduceSub, BEq.rfl, beq_self_eq_true, Int.reduceToNat]
      (refine hK _ ?_)
      clear hK K
      refine AWP.ret ?_
      subst hR
      (simp only [en, si, ea, gv, sv, hk, reduceCtorEq, reduceIte, Nat.reduceBEq, Nat.reduceAdd, Nat.reduceEqDiff, Nat.reduceLT, Nat.reduceLeDiff, Nat.reduceMul, Nat.reduceSub, BEq.rfl, beq_self_eq_true, Int.reduceToNat]; done)
def D_spec_l29Stock : DF
  | [x0, x1, x2] => some (.tup [.int .i64 ((spec_l29Stock (rdP dStore x0) (rdS x1) (rdI x2)).1), .int .i64 ((spec_l29Stock (rdP dStore x0) (rdS x1) (rdI x2)).2.1), .int .i64 ((spec_l29Stock (rdP dStore x0) (rdS x1) (rdI x2)).2.2)], false, [wP eStore dStore x0, wS x1, wI .i64 x2])
  | _ => none
theorem D_spec_l29Stock_ok : OkD Try.prog 86 D_spec_l29Stock := by
  intro xs r z ob h ho
  unfold D_spec_l29Stock at h
  split at h
  · simp only [Option.some.injEq, Prod.mk.injEq] at h
    obtain ⟨rfl, rfl, rfl⟩ := h
    obtain ⟨h0, h1, h2, _⟩ := ho
    exact Den.sim (spec_l29Stock_den _ _ _ ) (simOL_cons (wP_sim h0).1 <| simOL_cons (wS_sim h1).1 <| simOL_cons (wI_sim h2).1 <| trivial) (noIdL_cons (wP_sim h0).2 <| noIdL_cons (wS_sim h1).2 <| noIdL_cons (wI_sim h2).2 <| rfl) rfl
  · cases h
end Go.Ab

namespace Go.Ab
open Go Go.Proofs
theorem spec_l29Ask_DD : DOk Try.prog (DD [(101, dP D_spec_l03Day), (63, dP D_spec_l29Ok), (90, dP D_spec_l29Find)]) := DD_cons D_spec_l03Day_ok.e <| DD_cons D_spec_l29Ok_ok.e <| DD_cons D_spec_l29Find_ok.e <| DD_nil _
def spec_l29Ask (a0 : Store) (a1 : (List UInt8)) (a2 : Int) : Int :=
  (bif (!(spec_l29Ok a0)) then 1 else (bif (!(spec_l03Day a2)) then 2 else (bif decide ((spec_l29Find a0 a1) < 0) then 3 else 0)))
theorem spec_l29Ask_den (a0 : Store) (a1 : (List UInt8)) (a2 : Int)  : Den Try.prog 85 [.ep (eStore a0), .str a1, .int .i64 a2] (.int .i64 (spec_l29Ask a0 a1 a2)) := by
  generalize hR : spec_l29Ask a0 a1 a2 = r
  unfold spec_l29Ask at hR
  refine den_intro G_ok Try.func85 (by kernel_rfl) rfl Try.ntmps85 (by rw [Try.results85]) (by simp) rfl ?_
  intro c hL hc hk
  obtain ⟨hL0, hL1, hL2, _⟩ := hL
  have hw0 : bwStore a0 := Store_lens a0 hL0
  have hw1 : a1.length < 9223372036854775808 := Nat.lt_succ_of_le hL1
  clear hL0 hL1 hL2
  simp only [pars, Nat.zero_add]
  refine AWP.seq ?_
  refine AWP.regS G_ok spec_l29Ask_DD hc (by kernel_rfl) (fun K hK => ?_); simp only [ea, gv, sv, D_spec_l03Day, D_spec_l29Ok, D_spec_l29Find, reduceCtorEq, reduceIte, Nat.reduceBEq, Nat.reduceAdd, Nat.reduceEqDiff, Nat.reduceLT, Nat.reduceLeDiff, Nat.reduceMul, Nat.reduceSub, BEq.rfl, beq_self_eq_true, Int.reduceToNat]
  (refine hK _ ?_)
  clear hK K
  refine AWP.seq ?_
  refine AWP.seq ?_
  refine AWP.regS G_ok spec_l29Ask_DD hc (by kernel_rfl) (fun K hK => ?_); simp only [ea, gv, sv, D_spec_l03Day, D_spec_l29Ok, D_spec_l29Find, reduceCtorEq, reduceIte, Nat.reduceBEq, Nat.reduceAdd, Nat.reduceEqDiff, Nat.reduceLT, Nat.reduceLeDiff, Nat.reduceMul, Nat.reduceSub, BEq.rfl, beq_self_eq_true, Int.reduceToNat]
  (refine hK _ ?_)
  clear hK K
  refine AWP.cond rfl (fun hb => ?_) (fun hb => ?_)
  · (simp only [hb, cond_true] at hR)
    refine AWP.seq ?_
    refine AWP.regS G_ok spec_l29Ask_DD hc (by kernel_rfl) (fun K hK => ?_); simp only [ea, gv, sv, D_spec_l03Day, D_spec_l29Ok, D_spec_l29Find, reduceCtorEq, reduceIte, Nat.reduceBEq, Nat.reduceAdd, Nat.reduceEqDiff, Nat.reduceLT, Nat.reduceLeDiff, Nat.reduceMul, Nat.reduceSub, BEq.rfl, beq_self_eq_true, Int.reduceToNat]
    (refine hK _ ?_)
    clear hK K
    refine AWP.ret ?_
    subst hR
    (simp only [en, si, ea, gv, sv, hk, reduceCtorEq, reduceIte, Nat.reduceBEq, Nat.reduceAdd, Nat.reduceEqDiff, Nat.reduceLT, Nat.reduceLeDiff, Nat.reduceMul, Nat.reduceSub, BEq.rfl, beq_self_eq_true, Int.reduceToNat]; done)
  · (simp only [hb, cond_false] at hR)
    refine AWP.skip ?_
    refine AWP.seq ?_
    refine AWP.seq ?_
    refine AWP.regS G_ok spec_l29Ask_DD hc (by kernel_rfl) (fun K hK => ?_); simp only [ea, gv, sv, D_spec_l03Day, D_spec_l29Ok, D_spec_l29Find, reduceCtorEq, reduceIte, Nat.reduceBEq, Nat.reduceAdd, Nat.reduceEqDiff, Nat.reduceLT, Nat.reduceLeDiff, Nat.reduceMul, Nat.reduceSub, BEq.rfl, beq_self_eq_true, Int.reduceToNat]
    (refine hK _ ?_)
    clear hK K
    refine AWP.cond rfl (fun hb => ?_) (fun hb => ?_)
    · (simp only [hb, cond_true] at hR)
      refine AWP.seq ?_
      refine AWP.regS G_ok spec_l29Ask_DD hc (by kernel_rfl) (fun K hK => ?_); simp only [ea, gv, sv, D_spec_l03Day, D_spec_l29Ok, D_spec_l29Find, reduceCtorEq, reduceIte, Nat.reduceBEq, Nat.reduceAdd, Nat.reduceEqDiff, Nat.reduceLT, Nat.reduceLeDiff, Nat.reduceMul, Nat.reduceSub, BEq.rfl, beq_self_eq_true, Int.reduceToNat]
      (refine hK _ ?_)
      clear hK K
      refine AWP.ret ?_
      subst hR
      (simp only [en, si, ea, gv, sv, hk, reduceCtorEq, reduceIte, Nat.reduceBEq, Nat.reduceAdd, Nat.reduceEqDiff, Nat.reduceLT, Nat.reduceLeDiff, Nat.reduceMul, Nat.reduceSub, BEq.rfl, beq_self_eq_true, Int.reduceToNat]; done)
    · (simp only [hb, cond_false] at hR)
      refine AWP.skip ?_
      refine AWP.seq ?_
      refine AWP.seq ?_
      refine AWP.regS G_ok spec_l29Ask_DD hc (by kernel_rfl) (fun K hK => ?_); simp only [ea, gv, sv, D_spec_l03Day, D_spec_l29Ok, D_spec_l29Find, reduceCtorEq, reduceIte, Nat.reduceBEq, Nat.reduceAdd, Nat.reduceEqDiff, Nat.reduceLT, Nat.reduceLeDiff, Nat.reduceMul, Nat.reduceSub, BEq.rfl, beq_self_eq_true, Int.reduceToNat]
      (refine hK _ ?_)
      clear hK K
      refine AWP.cond rfl (fun hb => ?_) (fun hb => ?_)
      · (simp only [hb, cond_true] at hR)
        refine AWP.seq ?_
        refine AWP.regS G_ok spec_l29Ask_DD hc (by kernel_rfl) (fun K hK => ?_); simp only [ea, gv, sv, D_spec_l03Day, D_spec_l29Ok, D_spec_l29Find, reduceCtorEq, reduceIte, Nat.reduceBEq, Nat.reduceAdd, Nat.reduceEqDiff, Nat.reduceLT, Nat.reduceLeDiff, Nat.reduceMul, Nat.reduceSub, BEq.rfl, beq_self_eq_true, Int.reduceToNat]
        (refine hK _ ?_)
        clear hK K
        refine AWP.ret ?_
        subst hR
        (simp only [en, si, ea, gv, sv, hk, reduceCtorEq, reduceIte, Nat.reduceBEq, Nat.reduceAdd, Nat.reduceEqDiff, Nat.reduceLT, Nat.reduceLeDiff, Nat.reduceMul, Nat.reduceSub, BEq.rfl, beq_self_eq_true, Int.reduceToNat]; done)
      · (simp only [hb, cond_false] at hR)
        refine AWP.skip ?_
        refine AWP.seq ?_
        refine AWP.regS G_ok spec_l29Ask_DD hc (by kernel_rfl) (fun K hK => ?_); simp only [ea, gv, sv, D_spec_l03Day, D_spec_l29Ok, D_spec_l29Find, reduceCtorEq, reduceIte, Nat.reduceBEq, Nat.reduceAdd, Nat.reduceEqDiff, Nat.reduceLT, Nat.reduceLeDiff, Nat.reduceMul, Nat.reduceSub, BEq.rfl, beq_self_eq_true, Int.reduceToNat]
        (refine hK _ ?_)
        clear hK K
        refine AWP.ret ?_
        subst hR
        (simp only [en, si, ea, gv, sv, hk, reduceCtorEq, reduceIte, Nat.reduceBEq, Nat.reduceAdd, Nat.reduceEqDiff, Nat.reduceLT, Nat.reduceLeDiff, Nat.reduceMul, Nat.reduceSub, BEq.rfl, beq_self_eq_true, Int.reduceToNat]; done)
def D_spec_l29Ask : DF
  | [x0, x1, x2] => some (.int .i64 (spec_l29Ask (rdP dStore x0) (rdS x1) (rdI x2)), false, [wP eStore dStore x0, wS x1, wI .i64 x2])
  | _ => none
theorem D_spec_l29Ask_ok : OkD Try.prog 85 D_spec_l29Ask := by
  intro xs r z ob h ho
  unfold D_spec_l29Ask at h
  split at h
  · simp only [Option.some.injEq, Prod.mk.injEq] at h
    obtain ⟨rfl, rfl, rfl⟩ := h
    obtain ⟨h0, h1, h2, _⟩ := ho
    exact Den.sim (spec_l29Ask_den _ _ _ ) (simOL_cons (wP_sim h0).1 <| simOL_cons (wS_sim h1).1 <| simOL_cons (wI_sim h2).1 <| trivial) (noIdL_cons (wP_sim h0).2 <| noIdL_cons (wS_sim h1).2 <| noIdL_cons (wI_sim h2).2 <| rfl) rfl
  · cases h
end Go.Ab

namespace Go.Ab
open Go Go.Proofs
theorem impl_stockCode_DD : DOk Try.prog (DD [(102, dP D_impl_isDay), (18, dP D_impl_ValidStore), (70, dP D_impl_Store_spareOf)]) := DD_cons D_impl_isDay_ok.e <| DD_cons D_impl_ValidStore_ok.e <| DD_cons D_impl_Store_spareOf_ok.e <| DD_nil _
def impl_stockCode (a0 : Store) (a1 : (List UInt8)) (a2 : Int) : (Int × Int) :=
  (bif (!(impl_ValidStore a0)) then (0, 1) else (bif (!(impl_isDay a2)) then (0, 2) else (bif (!((impl_Store_spareOf a0 a1).2)) then (0, 3) else ((impl_Store_spareOf a0 a1).1, 0))))
theorem impl_stockCode_den (a0 : Store) (a1 : (List UInt8)) (a2 : Int) (hb0 : bdStore a0) (hb1 : a1.length < 1099511627776) : Den Try.prog 87 [.agg (eStore a0), .str a1, .int .i64 a2] (.tup [.int .i64 ((impl_stockCode a0 a1 a2).1), .int .i64 ((impl_stockCode a0 a1 a2).2)]) := by
  generalize hR : impl_stockCode a0 a1 a2 = r
  unfold impl_stockCode at hR
  refine den_intro G_ok Try.func87 (by kernel_rfl) rfl Try.ntmps87 (by rw [Try.results87]) (by simp) rfl ?_
  intro c hL hc hk
  obtain ⟨hL0, hL1, hL2, _⟩ := hL
  have hw0 : bwStore a0 := Store_lens a0 hL0
  have hw1 : a1.length < 9223372036854775808 := Nat.lt_succ_of_le hL1
  clear hL0 hL1 hL2
  simp only [pars, Nat.zero_add]
  refine AWP.seq ?_
  refine AWP.regS G_ok impl_stockCode_DD hc (by kernel_rfl) (fun K hK => ?_); simp only [ea, gv, sv, D_impl_isDay, D_impl_ValidStore, D_impl_Store_spareOf, reduceCtorEq, reduceIte, Nat.reduceBEq, Nat.reduceAdd, Nat.reduceEqDiff, Nat.reduceLT, Nat.reduceLeDiff, Nat.reduceMul, Nat.reduceSub, BEq.rfl, beq_self_eq_true, Int.reduceToNat]
  (refine hK _ ?_)
  clear hK K
  refine AWP.seq ?_
  refine AWP.seq ?_
  refine AWP.regS G_ok impl_stockCode_DD hc (by kernel_rfl) (fun K hK => ?_); simp only [ea, gv, sv, D_impl_isDay, D_impl_ValidStore, D_impl_Store_spareOf, reduceCtorEq, reduceIte, Nat.reduceBEq, Nat.reduceAdd, Nat.reduceEqDiff, Nat.reduceLT, Nat.reduceLeDiff, Nat.reduceMul, Nat.reduceSub, BEq.rfl, beq_self_eq_true, Int.reduceToNat]
  (refine ⟨by (trivial), hK _ ?_⟩)
  clear hK K
  refine AWP.cond rfl (fun hb => ?_) (fun hb => ?_)
  · (simp only [hb, cond_true] at hR)
    refine AWP.seq ?_
    refine AWP.regS G_ok impl_stockCode_DD hc (by kernel_rfl) (fun K hK => ?_); simp only [ea, gv, sv, D_impl_isDay, D_impl_ValidStore, D_impl_Store_spareOf, reduceCtorEq, reduceIte, Nat.reduceBEq, Nat.reduceAdd, Nat.reduceEqDiff, Nat.reduceLT, Nat.reduceLeDiff, Nat.reduceMul, Nat.reduceSub, BEq.rfl, beq_self_eq_true, Int.reduceToNat]
    (refine hK _ ?_)
    clear hK K
    refine AWP.ret ?_
    subst hR
    (simp only [en, si, ea, gv, sv, hk, reduceCtorEq, reduceIte, Nat.reduceBEq, Nat.reduceAdd, Nat.reduceEqDiff, Nat.reduceLT, Nat.reduceLeDiff, Nat.reduceMul, Nat.reduceSub, BEq.rfl, beq_self_eq_true, Int.reduceToNat]; done)
  · (simp only [hb, cond_false] at hR)
    refine AWP.skip ?_
    refine AWP.seq ?_
    refine AWP.seq ?_
    refine AWP.regS G_ok impl_stockCode_DD hc (by kernel_rfl) (fun K hK => ?_); simp only [ea, gv, sv, D_impl_isDay, D_impl_ValidStore, D_impl_Store_spareOf, reduceCtorEq, reduceIte, Nat.reduceBEq, Nat.reduceAdd, Nat.reduceEqDiff, Nat.reduceLT, Nat.reduceLeDiff, Nat.reduceMul, Nat.reduceSub, BEq.rfl, beq_self_eq_true, Int.reduceToNat]
    (refine hK _ ?_)
    clear hK K
    refine AWP.cond rfl (fun hb => ?_) (fun hb => ?_)
    · (simp only [hb, cond_true] at hR)
      refine AWP.seq ?_
      refine AWP.regS G_ok impl_stockCode_DD hc (by kernel_rfl) (fun K hK => ?_); simp only [ea, gv, sv, D_impl_isDay, D_impl_ValidStore, D_impl_Store_spareOf, reduceCtorEq, reduceIte, Nat.reduceBEq, Nat.reduceAdd, Nat.reduceEqDiff, Nat.reduceLT, Nat.reduceLeDiff, Nat.reduceMul, Nat.reduceSub, BEq.rfl, beq_self_eq_true, Int.reduceToNat]
      (refine hK _ ?_)
      clear hK K
      refine AWP.ret ?_
      subst hR
      (simp only [en, si, ea, gv, sv, hk, reduceCtorEq, reduceIte, Nat.reduceBEq, Nat.reduceAdd, Nat.reduceEqDiff, Nat.reduceLT, Nat.reduceLeDiff, Nat.reduceMul, Nat.reduceSub, BEq.rfl, beq_self_eq_true, Int.reduceToNat]; done)
    · (simp only [hb, cond_false] at hR)
      refine AWP.skip ?_
      refine AWP.seq ?_
      refine AWP.regS G_ok impl_stockCode_DD hc (by kernel_rfl) (fun K hK => ?_); simp only [ea, gv, sv, D_impl_isDay, D_impl_ValidStore, D_impl_Store_spareOf, reduceCtorEq, reduceIte, Nat.reduceBEq, Nat.reduceAdd, Nat.reduceEqDiff, Nat.reduceLT, Nat.reduceLeDiff, Nat.reduceMul, Nat.reduceSub, BEq.rfl, beq_self_eq_true, Int.reduceToNat]
      (refine hK _ ?_)
      clear hK K
      refine AWP.seq ?_
      refine AWP.seq ?_
      refine AWP.regS G_ok impl_stockCode_DD hc (by kernel_rfl) (fun K hK => ?_); simp only [ea, gv, sv, D_impl_isDay, D_impl_ValidStore, D_impl_Store_spareOf, reduceCtorEq, reduceIte, Nat.reduceBEq, Nat.reduceAdd, Nat.reduceEqDiff, Nat.reduceLT, Nat.reduceLeDiff, Nat.reduceMul, Nat.reduceSub, BEq.rfl, beq_self_eq_true, Int.reduceToNat]
      (refine hK _ ?_)
      clear hK K
      refine AWP.cond rfl (fun hb => ?_) (fun hb => ?_)
      · (simp only [hb, cond_true] at hR)
        refine AWP.seq ?_
        refine AWP.regS G_ok impl_stockCode_DD hc (by kernel_rfl) (fun K hK => ?_); simp only [ea, gv, sv, D_impl_isDay, D_impl_ValidStore, D_impl_Store_spareOf, reduceCtorEq, reduceIte, Nat.reduceBEq, Nat.reduceAdd, Nat.reduceEqDiff, Nat.reduceLT, Nat.reduceLeDiff, Nat.reduceMul, Nat.reduceSub, BEq.rfl, beq_self_eq_true, Int.reduceToNat]
        (refine hK _ ?_)
        clear hK K
        refine AWP.ret ?_
        subst hR
        (simp only [en, si, ea, gv, sv, hk, reduceCtorEq, reduceIte, Nat.reduceBEq, Nat.reduceAdd, Nat.reduceEqDiff, Nat.reduceLT, Nat.reduceLeDiff, Nat.reduceMul, Nat.reduceSub, BEq.rfl, beq_self_eq_true, Int.reduceToNat]; done)
      · (simp only [hb, cond_false] at hR)
        refine AWP.skip ?_
        refine AWP.seq ?_
        refine AWP.regS G_ok impl_stockCode_DD hc (by kernel_rfl) (fun K hK => ?_); simp only [ea, gv, sv, D_impl_isDay, D_impl_ValidStore, D_impl_Store_spareOf, reduceCtorEq, reduceIte, Nat.reduceBEq, Nat.reduceAdd, Nat.reduceEqDiff, Nat.reduceLT, Nat.reduceLeDiff, Nat.reduceMul, Nat.reduceSub, BEq.rfl, beq_self_eq_true, Int.reduceToNat]
        (refine hK _ ?_)
        clear hK K
        refine AWP.ret ?_
        subst hR
        (simp only [en, si, ea, gv, sv, hk, reduceCtorEq, reduceIte, Nat.reduceBEq, Nat.reduceAdd, Nat.reduceEqDiff, Nat.reduceLT, Nat.reduceLeDiff, Nat.reduceMul, Nat.reduceSub, BEq.rfl, beq_self_eq_true, Int.reduceToNat]; done)
def D_impl_stockCode : DF
  | [x0, x1, x2] => some (.tup [.int .i64 ((impl_stockCode (rdG dStore x0) (rdS x1) (rdI x2)).1), .int .i64 ((impl_stockCode (rdG dStore x0) (rdS x1) (rdI x2)).2)], false, [wG eStore dStore x0, wS x1, wI .i64 x2, bdStore (rdG dStore x0), (rdS x1).length < 1099511627776])
  | _ => none
theorem D_impl_stockCode_ok : OkD Try.prog 87 D_impl_stockCode := by
  intro xs r z ob h ho
  unfold D_impl_stockCode at h
  split at h
  · simp only [Option.some.injEq, Prod.mk.injEq] at h
    obtain ⟨rfl, rfl, rfl⟩ := h
    obtain ⟨h0, h1, h2, hb0, hb1, _⟩ := ho
    exact Den.sim (impl_stockCode_den _ _ _ hb0 hb1) (simOL_cons (wG_sim h0).1 <| simOL_cons (wS_sim h1).1 <| simOL_cons (wI_sim h2).1 <| trivial) (noIdL_cons (wG_sim h0).2 <| noIdL_cons (wS_sim h1).2 <| noIdL_cons (wI_sim h2).2 <| rfl) rfl
  · cases h
end Go.Ab

namespace Go.Ab
open Go Go.Proofs
theorem slices_Min_int64_DD : DOk Try.prog (DD []) := DD_nil _
def slices_Min_int64_b1 (a0 : (List Int)) (i1 : Nat) (s1 : Int) : Except (Int) (Int) :=
  .ok (if (a0.getD i1 default) < s1 then (a0.getD i1 default) else s1)
def slices_Min_int64 (a0 : (List Int)) : Int :=
  (match loopR (slices_Min_int64_b1 a0) (a0.length - 1) 1 (a0.getD 0 default) with | .error e => e | .ok s1 => s1)
theorem slices_Min_int64_den (a0 : (List Int)) (hp0 : 1 ≤ a0.length) : Den Try.prog 89 [encL 1 eIi64 a0] (.int .i64 (slices_Min_int64 a0)) := by
  generalize hR : slices_Min_int64 a0 = r
  unfold slices_Min_int64 at hR
  refine den_intro G_ok Try.func89 (by kernel_rfl) rfl Try.ntmps89 (by rw [Try.results89]) (by simp) rfl ?_
  intro c hL hc hk
  obtain ⟨hL0, _⟩ := hL
  have hw0 : a0.length < 9223372036854775808 := Nat.lt_succ_of_le (lens_encL hL0).1
  clear hL0
  simp only [pars, Nat.zero_add]
  refine AWP.seq ?_
  refine AWP.regS G_ok slices_Min_int64_DD hc (by kernel_rfl) (fun K hK => ?_); simp only [ea, gv, sv, reduceCtorEq, reduceIte, Nat.reduceBEq, Nat.reduceAdd, Nat.reduceEqDiff, Nat.reduceLT, Nat.reduceLeDiff, Nat.reduceMul, Nat.reduceSub, BEq.rfl, beq_self_eq_true, Int.reduceToNat]
  (refine hK _ ?_)
  clear hK K
  refine AWP.seq ?_
  refine AWP.seq ?_
  refine AWP.regS G_ok slices_Min_int64_DD hc (by kernel_rfl) (fun K hK => ?_); simp only [ea, gv, sv, reduceCtorEq, reduceIte, Nat.reduceBEq, Nat.reduceAdd, Nat.reduceEqDiff, Nat.reduceLT, Nat.reduceLeDiff, Nat.reduceMul, Nat.reduceSub, BEq.rfl, beq_self_eq_true, Int.reduceToNat]
  (refine hK _ ?_)
  clear hK K
  refine AWP.cond rfl (fun hb => ?_) (fun hb => ?_)
  · exfalso; have hb := of_decide_eq_true hb; omega
  · refine AWP.skip ?_
    refine AWP.seq ?_
    refine AWP.regS G_ok slices_Min_int64_DD hc (by kernel_rfl) (fun K hK => ?_); simp only [ea, gv, sv, reduceCtorEq, reduceIte, Nat.reduceBEq, Nat.reduceAdd, Nat.reduceEqDiff, Nat.reduceLT, Nat.reduceLeDiff, Nat.reduceMul, Nat.reduceSub, BEq.rfl, beq_self_eq_true, Int.reduceToNat]
    (refine ⟨by (omega), hK _ ?_⟩)
    clear hK K
    refine AWP.seq ?_
    refine AWP.seq ?_
    refine AWP.regS G_ok slices_Min_int64_DD hc (by kernel_rfl) (fun K hK => ?_); simp only [ea, gv, sv, reduceCtorEq, reduceIte, Nat.reduceBEq, Nat.reduceAdd, Nat.reduceEqDiff, Nat.reduceLT, Nat.reduceLeDiff, Nat.reduceMul, Nat.reduceSub, BEq.rfl, beq_self_eq_true, Int.reduceToNat]
    (refine hK _ ?_)
    clear hK K
    refine AWP.block ?_
    generalize hz1 : loopR (slices_Min_int64_b1 a0) (a0.length - 1) 1 (a0.getD 0 default) = z1 at hR
    refine AWP.range (slices_Min_int64_b1 a0) (fun i1 s1 => ⟨[(0, encL 1 eIi64 a0), (3, .int .i64 s1), (4, .int .i64 (i1 : Int))], []⟩) (fun i1 s1 => 1 ≤ i1) (a0.length) 1 (a0.getD 0 default) [] hz1 (by (trivial)) (by (trivial)) (by (simp only [si, ea, gv, sv, hk, reduceCtorEq, reduceIte, Nat.reduceBEq, Nat.reduceAdd, Nat.reduceEqDiff, Nat.reduceLT, Nat.reduceLeDiff, Nat.reduceMul, Nat.reduceSub, BEq.rfl, beq_self_eq_true, Int.reduceToNat]; trivial)) ?_
    clear hz1
    intro i1 s1 hi1 hW1 hz1
    refine AWP.seq ?_
    refine AWP.seq ?_
    refine AWP.regS G_ok slices_Min_int64_DD hc (by kernel_rfl) (fun K hK => ?_); simp only [ea, gv, sv, reduceCtorEq, reduceIte, Nat.reduceBEq, Nat.reduceAdd, Nat.reduceEqDiff, Nat.reduceLT, Nat.reduceLeDiff, Nat.reduceMul, Nat.reduceSub, BEq.rfl, beq_self_eq_true, Int.reduceToNat]
    (refine hK _ ?_)
    clear hK K
    refine AWP.cond rfl (fun hb => ?_) (fun hb => ?_)
    · have hlt1 : i1 < a0.length := by ((simp only [ob, ln, bdv, sv] at *; omega))
      rw [loopR_lt hlt1] at hz1; simp only [slices_Min_int64_b1] at hz1
      refine AWP.skip ?_
      refine AWP.seq ?_
      refine AWP.block ?_
      refine AWP.regS G_ok slices_Min_int64_DD hc (by kernel_rfl) (fun K hK => ?_); simp only [ea, gv, sv, reduceCtorEq, reduceIte, Nat.reduceBEq, Nat.reduceAdd, Nat.reduceEqDiff, Nat.reduceLT, Nat.reduceLeDiff, Nat.reduceMul, Nat.reduceSub, BEq.rfl, beq_self_eq_true, Int.reduceToNat]
      (refine ⟨by (omega), hK _ ?_⟩)
      clear hK K
      refine AWP.regS G_ok slices_Min_int64_DD hc (by kernel_rfl) (fun K hK => ?_); simp only [ea, gv, sv, reduceCtorEq, reduceIte, Nat.reduceBEq, Nat.reduceAdd, Nat.reduceEqDiff, Nat.reduceLT, Nat.reduceLeDiff, Nat.reduceMul, Nat.reduceSub, BEq.rfl, beq_self_eq_true, Int.reduceToNat]
      (refine hK _ ?_)
      clear hK K
      exact ⟨_, [], hlt1, by ((and_intros <;> simp only [ob, ln] at * <;> omega)), hz1, by (simp only [si, ea, gv, sv, hk, reduceCtorEq, reduceIte, Nat.reduceBEq, Nat.reduceAdd, Nat.reduceEqDiff, Nat.reduceLT, Nat.reduceLeDiff, Nat.reduceMul, Nat.reduceSub, BEq.rfl, beq_self_eq_true, Int.reduceToNat]; (and_intros <;> first | trivial | (rw [IntKind.wrap_i64]; omega)))⟩
    · obtain rfl : i1 = a0.length := by ((simp only [ob, ln, bdv, sv] at *; omega))
      rw [loopR_ge (Nat.le_refl _)] at hz1; subst hz1; dsimp only at hR
      refine AWP.exit ?_; refine exitTo_here ?_
      refine AWP.seq ?_
      refine AWP.regS G_ok slices_Min_int64_DD hc (by kernel_rfl) (fun K hK => ?_); simp only [ea, gv, sv, reduceCtorEq, reduceIte, Nat.reduceBEq, Nat.reduceAdd, Nat.reduceEqDiff, Nat.reduceLT, Nat.reduceLeDiff, Nat.reduceMul, Nat.reduceSub, BEq.rfl, beq_self_eq_true, Int.reduceToNat]
      (refine hK _ ?_)
      clear hK K
      refine AWP.ret ?_
      subst hR
      (simp only [en, si, ea, gv, sv, hk, reduceCtorEq, reduceIte, Nat.reduceBEq, Nat.reduceAdd, Nat.reduceEqDiff, Nat.reduceLT, Nat.reduceLeDiff, Nat.reduceMul, Nat.reduceSub, BEq.rfl, beq_self_eq_true, Int.reduceToNat]; done)
def D_slices_Min_int64 : DF
  | [x0] => some (.int .i64 (slices_Min_int64 (rdL dIi64 x0)), false, [wL 1 eIi64 dIi64 x0, 1 ≤ (rdL dIi64 x0).length])
  | _ => none
theorem D_slices_Min_int64_ok : OkD Try.prog 89 D_slices_Min_int64 := by
  intro xs r z ob h ho
  unfold D_slices_Min_int64 at h
  split at h
  · simp only [Option.some.injEq, Prod.mk.injEq] at h
    obtain ⟨rfl, rfl, rfl⟩ := h
    obtain ⟨h0, hp0, _⟩ := ho
    exact Den.sim (slices_Min_int64_den _ hp0) (simOL_cons (wL_sim h0).1 <| trivial) (noIdL_cons (wL_sim h0).2 <| rfl) rfl
  · cases h
end Go.Ab

namespace Go.Ab
open Go Go.Proofs
theorem slices_Max_int64_DD : DOk Try.prog (DD []) := DD_nil _
def slices_Max_int64_b1 (a0 : (List Int)) (i1 : Nat) (s1 : Int) : Except (Int) (Int) :=
  .ok (if s1 < (a0.getD i1 default) then (a0.getD i1 default) else s1)
def slices_Max_int64 (a0 : (List Int)) : Int :=
  (match loopR (slices_Max_int64_b1 a0) (a0.length - 1) 1 (a0.getD 0 default) with | .error e => e | .ok s1 => s1)
theorem slices_Max_int64_den (a0 : (List Int)) (hp0 : 1 ≤ a0.length) : Den Try.prog 91 [encL 1 eIi64 a0] (.int .i64 (slices_Max_int64 a0)) := by
  generalize hR : slices_Max_int64 a0 = r
  unfold slices_Max_int64 at hR
  refine den_intro G_ok Try.func91 (by kernel_rfl) rfl Try.ntmps91 (by rw [Try.results91]) (by simp) rfl ?_
  intro c hL hc hk
  obtain ⟨hL0, _⟩ := hL
  have hw0 : a0.length < 9223372036854775808 := Nat.lt_succ_of_le (lens_encL hL0).1
  clear hL0
  simp only [pars, Nat.zero_add]
  refine AWP.seq ?_
  refine AWP.regS G_ok slices_Max_int64_DD hc (by kernel_rfl) (fun K hK => ?_); simp only [ea, gv, sv, reduceCtorEq, reduceIte, Nat.reduceBEq, Nat.reduceAdd, Nat.reduceEqDiff, Nat.reduceLT, Nat.reduceLeDiff, Nat.reduceMul, Nat.reduceSub, BEq.rfl, beq_self_eq_true, Int.reduceToNat]
  (refine hK _ ?_)
  clear hK K
  refine AWP.seq ?_
  refine AWP.seq ?_
  refine AWP.regS G_ok slices_Max_int64_DD hc (by kernel_rfl) (fun K hK => ?_); simp only [ea, gv, sv, reduceCtorEq, reduceIte, Nat.reduceBEq, Nat.reduceAdd, Nat.reduceEqDiff, Nat.reduceLT, Nat.reduceLeDiff, Nat.reduceMul, Nat.reduceSub, BEq.rfl, beq_self_eq_true, Int.reduceToNat]
  (refine hK _ ?_)
  clear hK K
  refine AWP.cond rfl (fun hb => ?_) (fun hb => ?_)
  · exfalso; have hb := of_decide_eq_true hb; omega
  · refine AWP.skip ?_
    refine AWP.seq ?_
    refine AWP.regS G_ok slices_Max_int64_DD hc (by kernel_rfl) (fun K hK => ?_); simp only [ea, gv, sv, reduceCtorEq, reduceIte, Nat.reduceBEq, Nat.reduceAdd, Nat.reduceEqDiff, Nat.reduceLT, Nat.reduceLeDiff, Nat.reduceMul, Nat.reduceSub, BEq.rfl, beq_self_eq_true, Int.reduceToNat]
    (refine ⟨by (omega), hK _ ?_⟩)
    clear hK K
    refine AWP.seq ?_
    refine AWP.seq ?_
    refine AWP.regS G_ok slices_Max_int64_DD hc (by kernel_rfl) (fun K hK => ?_); simp only [ea, gv, sv, reduceCtorEq, reduceIte, Nat.reduceBEq, Nat.reduceAdd, Nat.reduceEqDiff, Nat.reduceLT, Nat.reduceLeDiff, Nat.reduceMul, Nat.reduceSub, BEq.rfl, beq_self_eq_true, Int.reduceToNat]
    (refine hK _ ?_)
    clear hK K
    refine AWP.block ?_
    generalize hz1 : loopR (slices_Max_int64_b1 a0) (a0.length - 1) 1 (a0.getD 0 default) = z1 at hR
    refine AWP.range (slices_Max_int64_b1 a0) (fun i1 s1 => ⟨[(0, encL 1 eIi64 a0), (3, .int .i64 s1), (4, .int .i64 (i1 : Int))], []⟩) (fun i1 s1 => 1 ≤ i1) (a0.length) 1 (a0.getD 0 default) [] hz1 (by (trivial)) (by (trivial)) (by (simp only [si, ea, gv, sv, hk, reduceCtorEq, reduceIte, Nat.reduceBEq, Nat.reduceAdd, Nat.reduceEqDiff, Nat.reduceLT, Nat.reduceLeDiff, Nat.reduceMul, Nat.reduceSub, BEq.rfl, beq_self_eq_true, Int.reduceToNat]; trivial)) ?_
    clear hz1
    intro i1 s1 hi1 hW1 hz1
    refine AWP.seq ?_
    refine AWP.seq ?_
    refine AWP.regS G_ok slices_Max_int64_DD hc (by kernel_rfl) (fun K hK => ?_); simp only [ea, gv, sv, reduceCtorEq, reduceIte, Nat.reduceBEq, Nat.reduceAdd, Nat.reduceEqDiff, Nat.reduceLT, Nat.reduceLeDiff, Nat.reduceMul, Nat.reduceSub, BEq.rfl, beq_self_eq_true, Int.reduceToNat]
    (refine hK _ ?_)
    clear hK K
    refine AWP.cond rfl (fun hb => ?_) (fun hb => ?_)
    · have hlt1 : i1 < a0.length := by ((simp only [ob, ln, bdv, sv] at *; omega))
      rw [loopR_lt hlt1] at hz1; simp only [slices_Max_int64_b1] at hz1
      refine AWP.skip ?_
      refine AWP.seq ?_
      refine AWP.block ?_
      refine AWP.regS G_ok slices_Max_int64_DD hc (by kernel_rfl) (fun K hK => ?_); simp only [ea, gv, sv, reduceCtorEq, reduceIte, Nat.reduceBEq, Nat.reduceAdd, Nat.reduceEqDiff, Nat.reduceLT, Nat.reduceLeDiff, Nat.reduceMul, Nat.reduceSub, BEq.rfl, beq_self_eq_true, Int.reduceToNat]
      (refine ⟨by (omega), hK _ ?_⟩)
      clear hK K
      refine AWP.regS G_ok slices_Max_int64_DD hc (by kernel_rfl) (fun K hK => ?_); simp only [ea, gv, sv, reduceCtorEq, reduceIte, Nat.reduceBEq, Nat.reduceAdd, Nat.reduceEqDiff, Nat.reduceLT, Nat.reduceLeDiff, Nat.reduceMul, Nat.reduceSub, BEq.rfl, beq_self_eq_true, Int.reduceToNat]
      (refine hK _ ?_)
      clear hK K
      exact ⟨_, [], hlt1, by ((and_intros <;> simp only [ob, ln] at * <;> omega)), hz1, by (simp only [si, ea, gv, sv, hk, reduceCtorEq, reduceIte, Nat.reduceBEq, Nat.reduceAdd, Nat.reduceEqDiff, Nat.reduceLT, Nat.reduceLeDiff, Nat.reduceMul, Nat.reduceSub, BEq.rfl, beq_self_eq_true, Int.reduceToNat]; (and_intros <;> first | trivial | (rw [IntKind.wrap_i64]; omega)))⟩
    · obtain rfl : i1 = a0.length := by ((simp only [ob, ln, bdv, sv] at *; omega))
      rw [loopR_ge (Nat.le_refl _)] at hz1; subst hz1; dsimp only at hR
      refine AWP.exit ?_; refine exitTo_here ?_
      refine AWP.seq ?_
      refine AWP.regS G_ok slices_Max_int64_DD hc (by kernel_rfl) (fun K hK => ?_); simp only [ea, gv, sv, reduceCtorEq, reduceIte, Nat.reduceBEq, Nat.reduceAdd, Nat.reduceEqDiff, Nat.reduceLT, Nat.reduceLeDiff, Nat.reduceMul, Nat.reduceSub, BEq.rfl, beq_self_eq_true, Int.reduceToNat]
      (refine hK _ ?_)
      clear hK K
      refine AWP.ret ?_
      subst hR
      (simp only [en, si, ea, gv, sv, hk, reduceCtorEq, reduceIte, Nat.reduceBEq, Nat.reduceAdd, Nat.reduceEqDiff, Nat.reduceLT, Nat.reduceLeDiff, Nat.reduceMul, Nat.reduceSub, BEq.rfl, beq_self_eq_true, Int.reduceToNat]; done)
def D_slices_Max_int64 : DF
  | [x0] => some (.int .i64 (slices_Max_int64 (rdL dIi64 x0)), false, [wL 1 eIi64 dIi64 x0, 1 ≤ (rdL dIi64 x0).length])
  | _ => none
theorem D_slices_Max_int64_ok : OkD Try.prog 91 D_slices_Max_int64 := by
  intro xs r z ob h ho
  unfold D_slices_Max_int64 at h
  split at h
  · simp only [Option.some.injEq, Prod.mk.injEq] at h
    obtain ⟨rfl, rfl, rfl⟩ := h
    obtain ⟨h0, hp0, _⟩ := ho
    exact Den.sim (slices_Max_int64_den _ hp0) (simOL_cons (wL_sim h0).1 <| trivial) (noIdL_cons (wL_sim h0).2 <| rfl) rfl
  · cases h
end Go.Ab

namespace Go.Ab
open Go Go.Proofs
theorem stockCode_eq (a : Store) (k : List UInt8) (d : Int) (h : bwStore a) : (impl_stockCode a k d).2 = spec_l29Ask a k d ∧ (spec_l29Ask a k d = 0 → (impl_stockCode a k d).1 = spec_l29Find a k ∧ OkS a) := by
  unfold impl_stockCode spec_l29Ask
  rw [validStore_eq a h]
  cases h1 : spec_l29Ok a with
  | false => simp
  | true =>
    have hok := (specOk_iff a).1 h1
    obtain ⟨f1, f2⟩ := found_eq a k (And.left (And.left h)) hok.s2
    have hd : impl_isDay d = spec_l03Day d := rfl
    rw [hd]
    cases h2 : spec_l03Day d with
    | false => simp
    | true =>
      rw [f1]
      by_cases hf : 0 ≤ spec_l29Find a k
      · have hn : ¬ spec_l29Find a k < 0 := by omega
        simp only [hf, hn, decide_true, decide_false, Bool.not_true, cond_false, true_and]
        exact fun _ => ⟨f2 hf, hok⟩
      · have hn : spec_l29Find a k < 0 := by omega
        simp [hf, hn]
def st1 (k : List UInt8) (d : Int) : List Entry → Int → Int
  | [], s => s
  | e :: t, s => bif (e.Item == k) && decide (e.Day ≤ d) then st1 k d t (IntKind.wrap .i64 (s + e.Amount)) else st1 k d t s
def st2 (k : List UInt8) (d : Int) : List Entry → Int × Int × Int → Int × Int × Int
  | [], s => s
  | e :: t, s => bif (e.Item == k) && decide (d < e.Day) then st2 k d t (IntKind.wrap .i64 (s.1 + e.Amount), spec_l00Min s.2.1 (IntKind.wrap .i64 (s.1 + e.Amount)), spec_l00Max s.2.2 (IntKind.wrap .i64 (s.1 + e.Amount))) else st2 k d t s
theorem stock_eq (a : Store) (k : List UInt8) (d : Int) : spec_l29Stock a k d = (st1 k d a.Entries 0, (st2 k d a.Entries (st1 k d a.Entries 0, st1 k d a.Entries 0, st1 k d a.Entries 0)).2) := by
  unfold spec_l29Stock
  rw [loopR_list0 (b := spec_l29Stock_b1 a k d) (fun (e : Entry) (s : Int) => (bif ((e.Item == k) && decide (e.Day ≤ d)) then .ok (IntKind.wrap .i64 (s + e.Amount)) else .ok s)) a.Entries _ (fun j u _ => rfl)]
  have h1 : ∀ (es : List Entry) (s : Int), loopL (ρ := Int × Int × Int) (fun (e : Entry) (s : Int) => (bif ((e.Item == k) && decide (e.Day ≤ d)) then .ok (IntKind.wrap .i64 (s + e.Amount)) else .ok s)) es s = .ok (st1 k d es s) := by
    intro es
    induction es with
    | nil => intro s; rfl
    | cons e t ih =>
      intro s
      rw [loopL_cons]
      simp only [st1]
      cases (e.Item == k) && decide (e.Day ≤ d) with
      | true => exact ih _
      | false => exact ih _
  rw [h1]
  simp only
  rw [loopR_list0 (b := spec_l29Stock_b2 a k d _) (fun (e : Entry) (s : Int × Int × Int) => (bif ((e.Item == k) && decide (d < e.Day)) then .ok (IntKind.wrap .i64 (s.1 + e.Amount), (spec_l00Min s.2.1 (IntKind.wrap .i64 (s.1 + e.Amount))), (spec_l00Max s.2.2 (IntKind.wrap .i64 (s.1 + e.Amount)))) else .ok (s.1, s.2.1, s.2.2))) a.Entries _ (fun j u _ => rfl)]
  have h2 : ∀ (es : List Entry) (s : Int × Int × Int), loopL (ρ := Int × Int × Int) (fun (e : Entry) (s : Int × Int × Int) => (bif ((e.Item == k) && decide (d < e.Day)) then .ok (IntKind.wrap .i64 (s.1 + e.Amount), (spec_l00Min s.2.1 (IntKind.wrap .i64 (s.1 + e.Amount))), (spec_l00Max s.2.2 (IntKind.wrap .i64 (s.1 + e.Amount)))) else .ok (s.1, s.2.1, s.2.2))) es s = .ok (st2 k d es s) := by
    intro es
    induction es with
    | nil => intro s; rfl
    | cons e t ih =>
      intro s
      rw [loopL_cons]
      simp only [st2]
      cases (e.Item == k) && decide (d < e.Day) with
      | true => exact ih _
      | false => exact ih _
  rw [h2]
def gF (d : Int) (x : Int × Int) (s : List Int) : Except (List Int) (List Int) := bif decide (x.1 ≤ d) then .ok (s.set 0 x.2) else .ok (s ++ [x.2])
theorem days_le (a : Store) (hok : OkS a) : a.Entries.Pairwise (fun x y => x.Day ≤ y.Day) := by
  have h : ∀ (n i : Nat), i + n < a.Entries.length → (a.Entries.getD i default).Day ≤ (a.Entries.getD (i + n) default).Day := by
    intro n
    induction n with
    | zero => intro i _; exact Int.le_refl _
    | succ n ih =>
      intro i hi
      have h1 := ih i (by omega)
      have h2 := hok.e3 (i + (n + 1)) hi (by omega)
      rw [show i + (n + 1) - 1 = i + n by omega] at h2
      omega
  rw [List.pairwise_iff_getElem]
  intro i j hi hj hij
  have := h (j - i) i (by omega)
  rw [show i + (j - i) = j by omega, List.getD_eq_getElem?_getD, List.getD_eq_getElem?_getD, List.getElem?_eq_getElem hi, List.getElem?_eq_getElem hj, Option.getD_some, Option.getD_some] at this
  exact this
theorem lateE (k : List UInt8) (d : Int) : ∀ (es : List Entry) (acc : Int) (out : List Int) (lo hi : Int), (∀ e, e ∈ es → d < e.Day) →
    loopL (gF d) (ps k es acc) out = .ok (out ++ (ps k es acc).map Prod.snd) ∧ (∀ s, st1 k d es s = s) ∧
    (st2 k d es (acc, lo, hi)).2 = (((ps k es acc).map Prod.snd).foldl spec_l00Min lo, ((ps k es acc).map Prod.snd).foldl spec_l00Max hi)
  | [], acc, out, lo, hi, _ => by simp [ps, loopL, st1, st2]
  | e :: t, acc, out, lo, hi, h => by
    have he := h e (List.mem_cons_self ..)
    have ht := fun x hx => h x (List.mem_cons_of_mem _ hx)
    have hd1 : decide (e.Day ≤ d) = false := by simp; omega
    have hd2 : decide (d < e.Day) = true := by simp; omega
    simp only [ps, st1, st2, hd1, hd2, Bool.and_false, Bool.and_true, cond_false]
    cases hk : e.Item == k with
    | true =>
      simp only [cond_true, loopL_cons, gF, hd1, cond_false, List.map_cons, List.foldl_cons]
      obtain ⟨h1, h2, h3⟩ := lateE k d t (IntKind.wrap .i64 (acc + e.Amount)) (out ++ [IntKind.wrap .i64 (acc + e.Amount)]) (spec_l00Min lo (IntKind.wrap .i64 (acc + e.Amount))) (spec_l00Max hi (IntKind.wrap .i64 (acc + e.Amount))) ht
      refine ⟨?_, h2, h3⟩
      have : loopL (gF d) (ps k t (IntKind.wrap .i64 (acc + e.Amount))) (out ++ [IntKind.wrap .i64 (acc + e.Amount)]) = _ := h1
      rw [this]
      simp
    | false =>
      simp only [cond_false]
      exact lateE k d t acc out lo hi ht
theorem earlyE (k : List UInt8) (d : Int) : ∀ (es : List Entry) (acc : Int), es.Pairwise (fun x y => x.Day ≤ y.Day) →
    ∃ L, loopL (gF d) (ps k es acc) [acc] = .ok (st1 k d es acc :: L) ∧ (st2 k d es (st1 k d es acc, st1 k d es acc, st1 k d es acc)).2 = (L.foldl spec_l00Min (st1 k d es acc), L.foldl spec_l00Max (st1 k d es acc))
  | [], acc, _ => ⟨[], by simp [ps, loopL, st1, st2]⟩
  | e :: t, acc, h => by
    rw [List.pairwise_cons] at h
    by_cases hd : e.Day ≤ d
    · have hd1 : decide (e.Day ≤ d) = true := by simpa using hd
      have hd2 : decide (d < e.Day) = false := by simp; omega
      simp only [ps, st1, st2, hd1, hd2, Bool.and_false, Bool.and_true, cond_false]
      cases hk : e.Item == k with
      | true =>
        simp only [cond_true, loopL_cons]
        exact earlyE k d t (IntKind.wrap .i64 (acc + e.Amount)) h.2 |>.imp fun L hL => ⟨by
          have : gF d (e.Day, IntKind.wrap .i64 (acc + e.Amount)) [acc] = .ok [IntKind.wrap .i64 (acc + e.Amount)] := by simp [gF, hd]
          rw [this]
          exact hL.1, hL.2⟩
      | false =>
        simp only [cond_false]
        exact earlyE k d t acc h.2
    · have hl : ∀ x, x ∈ e :: t → d < x.Day := by
        intro x hx
        rcases List.mem_cons.1 hx with rfl | hx
        · omega
        · have := h.1 x hx; omega
      obtain ⟨h1, h2, h3⟩ := lateE k d (e :: t) acc [acc] acc acc hl
      rw [h2 acc]
      exact ⟨_, h1, h3⟩
theorem fromDay_eq (a : Store) (k : List UInt8) (d : Int) (hok : OkS a) : ∃ L, impl_Store_fromDay a k d = (spec_l29Stock a k d).1 :: L ∧ (spec_l29Stock a k d).2 = (L.foldl spec_l00Min (spec_l29Stock a k d).1, L.foldl spec_l00Max (spec_l29Stock a k d).1) := by
  rw [stock_eq]
  obtain ⟨L, h1, h2⟩ := earlyE k d a.Entries 0 (days_le a hok)
  refine ⟨L, ?_, h2⟩
  unfold impl_Store_fromDay
  have hlen : (impl_Store_sums a k).1.length = (ps k a.Entries 0).length := by rw [sums_eq]; simp
  rw [hlen, loopR_list0 (b := impl_Store_fromDay_b1 a k d) (gF d) (ps k a.Entries 0) _ (fun j u hj => by
    simp only [impl_Store_fromDay_b1, sums_eq, getD_map Prod.fst _ j hj, getD_map Prod.snd _ j hj]; rfl), h1]
theorem min_eq (x : Int) (L : List Int) : slices_Min_int64 (x :: L) = L.foldl spec_l00Min x := by
  unfold slices_Min_int64
  rw [loopR_list (b := slices_Min_int64_b1 (x :: L)) (fun y s => .ok (if y < s then y else s)) (x :: L) _ 1 _ (by simp; omega) (fun j u _ _ => rfl)]
  simp only [List.drop_succ_cons, List.drop_zero, List.getD_cons_zero]
  have : ∀ (L : List Int) (x : Int), loopL (ρ := Int) (fun y s => .ok (if y < s then y else s)) L x = .ok (L.foldl spec_l00Min x) := by
    intro L
    induction L with
    | nil => intro x; rfl
    | cons y t ih =>
      intro x
      rw [loopL_cons, List.foldl_cons]
      simp only
      rw [ih]
      congr 2
      unfold spec_l00Min
      by_cases h : x < y <;> by_cases h' : y < x <;> simp [h, h'] <;> omega
  rw [this]
theorem max_eq (x : Int) (L : List Int) : slices_Max_int64 (x :: L) = L.foldl spec_l00Max x := by
  unfold slices_Max_int64
  rw [loopR_list (b := slices_Max_int64_b1 (x :: L)) (fun y s => .ok (if s < y then y else s)) (x :: L) _ 1 _ (by simp; omega) (fun j u _ _ => rfl)]
  simp only [List.drop_succ_cons, List.drop_zero, List.getD_cons_zero]
  have : ∀ (L : List Int) (x : Int), loopL (ρ := Int) (fun y s => .ok (if s < y then y else s)) L x = .ok (L.foldl spec_l00Max x) := by
    intro L
    induction L with
    | nil => intro x; rfl
    | cons y t ih =>
      intro x
      rw [loopL_cons, List.foldl_cons]
      simp only
      rw [ih]
      congr 2
      unfold spec_l00Max
      by_cases h : x < y <;> by_cases h' : y < x <;> simp [h, h'] <;> omega
  rw [this]
end Go.Ab
