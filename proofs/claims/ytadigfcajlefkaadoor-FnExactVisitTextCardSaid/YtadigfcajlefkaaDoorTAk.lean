/- A part of a proof: walks of functions and lemmas of our own. No conditions. -/
import Derived.Test.YtadigfcajlefkaaDoorTAj
set_option linter.unusedSectionVars false
set_option linter.unusedVariables false
set_option linter.unusedSimpArgs false
namespace Go.Ab
open Go Go.Proofs
theorem spec_l00In_DD : DOk Tryd.prog (DD []) := DD_nil _
def spec_l00In (a0 : Int) (a1 : Int) (a2 : Int) : Bool :=
  (decide (a1 ≤ a0) && decide (a0 ≤ a2))
theorem spec_l00In_den (a0 : Int) (a1 : Int) (a2 : Int)  : Den Tryd.prog 21 [.int .i64 a0, .int .i64 a1, .int .i64 a2] (.bool (spec_l00In a0 a1 a2)) := by
  generalize hR : spec_l00In a0 a1 a2 = r
  unfold spec_l00In at hR
  refine den_intro G_ok Tryd.func21 (by kernel_rfl) rfl Tryd.ntmps21 (by rw [Tryd.results21]) (by simp) rfl ?_
  intro c hL hc hk
  clear hL
  simp only [pars, Nat.zero_add]
  refine AWP.seq ?_
  refine AWP.regS G_ok spec_l00In_DD hc (by kernel_rfl) (fun K hK => ?_); simp only [ea, gv, sv, reduceCtorEq, reduceIte, Nat.reduceBEq, Nat.reduceAdd, Nat.reduceEqDiff, Nat.reduceLT, Nat.reduceLeDiff, Nat.reduceMul, Nat.reduceSub, BEq.rfl, beq_self_eq_true, Int.reduceToNat]
  (refine hK _ ?_)
  clear hK K
  refine AWP.seq ?_
  refine AWP.regS G_ok spec_l00In_DD hc (by kernel_rfl) (fun K hK => ?_); simp only [ea, gv, sv, reduceCtorEq, reduceIte, Nat.reduceBEq, Nat.reduceAdd, Nat.reduceEqDiff, Nat.reduceLT, Nat.reduceLeDiff, Nat.reduceMul, Nat.reduceSub, BEq.rfl, beq_self_eq_true, Int.reduceToNat]
  (refine hK _ ?_)
  clear hK K
  refine AWP.ret ?_
  subst hR
  (simp only [en, si, ea, gv, sv, hk, reduceCtorEq, reduceIte, Nat.reduceBEq, Nat.reduceAdd, Nat.reduceEqDiff, Nat.reduceLT, Nat.reduceLeDiff, Nat.reduceMul, Nat.reduceSub, BEq.rfl, beq_self_eq_true, Int.reduceToNat]; done)
def D_spec_l00In : DF
  | [x0, x1, x2] => some (.bool (spec_l00In (rdI x0) (rdI x1) (rdI x2)), false, [wI .i64 x0, wI .i64 x1, wI .i64 x2])
  | _ => none
theorem D_spec_l00In_ok : OkD Tryd.prog 21 D_spec_l00In := by
  intro xs r z ob h ho
  unfold D_spec_l00In at h
  split at h
  · simp only [Option.some.injEq, Prod.mk.injEq] at h
    obtain ⟨rfl, rfl, rfl⟩ := h
    obtain ⟨h0, h1, h2, _⟩ := ho
    exact Den.sim (spec_l00In_den _ _ _ ) (simOL_cons (wI_sim h0).1 <| simOL_cons (wI_sim h1).1 <| simOL_cons (wI_sim h2).1 <| trivial) (noIdL_cons (wI_sim h0).2 <| noIdL_cons (wI_sim h1).2 <| noIdL_cons (wI_sim h2).2 <| rfl) rfl
  · cases h
end Go.Ab

namespace Go.Ab
open Go Go.Proofs
theorem spec_l20Number_DD : DOk Tryd.prog (DD [(21, dP D_spec_l00In)]) := DD_cons D_spec_l00In_ok.e <| DD_nil _
def spec_l20Number (a0 : Int) : Bool :=
  (spec_l00In a0 1 9999)
theorem spec_l20Number_den (a0 : Int)  : Den Tryd.prog 20 [.int .i64 a0] (.bool (spec_l20Number a0)) := by
  generalize hR : spec_l20Number a0 = r
  unfold spec_l20Number at hR
  refine den_intro G_ok Tryd.func20 (by kernel_rfl) rfl Tryd.ntmps20 (by rw [Tryd.results20]) (by simp) rfl ?_
  intro c hL hc hk
  clear hL
  simp only [pars, Nat.zero_add]
  refine AWP.seq ?_
  refine AWP.regS G_ok spec_l20Number_DD hc (by kernel_rfl) (fun K hK => ?_); simp only [ea, gv, sv, D_spec_l00In, reduceCtorEq, reduceIte, Nat.reduceBEq, Nat.reduceAdd, Nat.reduceEqDiff, Nat.reduceLT, Nat.reduceLeDiff, Nat.reduceMul, Nat.reduceSub, BEq.rfl, beq_self_eq_true, Int.reduceToNat]
  (refine hK _ ?_)
  clear hK K
  refine AWP.seq ?_
  refine AWP.regS G_ok spec_l20Number_DD hc (by kernel_rfl) (fun K hK => ?_); simp only [ea, gv, sv, D_spec_l00In, reduceCtorEq, reduceIte, Nat.reduceBEq, Nat.reduceAdd, Nat.reduceEqDiff, Nat.reduceLT, Nat.reduceLeDiff, Nat.reduceMul, Nat.reduceSub, BEq.rfl, beq_self_eq_true, Int.reduceToNat]
  (refine hK _ ?_)
  clear hK K
  refine AWP.ret ?_
  subst hR
  (simp only [en, si, ea, gv, sv, hk, reduceCtorEq, reduceIte, Nat.reduceBEq, Nat.reduceAdd, Nat.reduceEqDiff, Nat.reduceLT, Nat.reduceLeDiff, Nat.reduceMul, Nat.reduceSub, BEq.rfl, beq_self_eq_true, Int.reduceToNat]; done)
def D_spec_l20Number : DF
  | [x0] => some (.bool (spec_l20Number (rdI x0)), false, [wI .i64 x0])
  | _ => none
theorem D_spec_l20Number_ok : OkD Tryd.prog 20 D_spec_l20Number := by
  intro xs r z ob h ho
  unfold D_spec_l20Number at h
  split at h
  · simp only [Option.some.injEq, Prod.mk.injEq] at h
    obtain ⟨rfl, rfl, rfl⟩ := h
    obtain ⟨h0, _⟩ := ho
    exact Den.sim (spec_l20Number_den _ ) (simOL_cons (wI_sim h0).1 <| trivial) (noIdL_cons (wI_sim h0).2 <| rfl) rfl
  · cases h
end Go.Ab

namespace Go.Ab
open Go Go.Proofs
theorem spec_l04Day_DD : DOk Tryd.prog (DD [(21, dP D_spec_l00In)]) := DD_cons D_spec_l00In_ok.e <| DD_nil _
def spec_l04Day (a0 : Int) : Bool :=
  (spec_l00In a0 0 99999)
theorem spec_l04Day_den (a0 : Int)  : Den Tryd.prog 22 [.int .i64 a0] (.bool (spec_l04Day a0)) := by
  generalize hR : spec_l04Day a0 = r
  unfold spec_l04Day at hR
  refine den_intro G_ok Tryd.func22 (by kernel_rfl) rfl Tryd.ntmps22 (by rw [Tryd.results22]) (by simp) rfl ?_
  intro c hL hc hk
  clear hL
  simp only [pars, Nat.zero_add]
  refine AWP.seq ?_
  refine AWP.regS G_ok spec_l04Day_DD hc (by kernel_rfl) (fun K hK => ?_); simp only [ea, gv, sv, D_spec_l00In, reduceCtorEq, reduceIte, Nat.reduceBEq, Nat.reduceAdd, Nat.reduceEqDiff, Nat.reduceLT, Nat.reduceLeDiff, Nat.reduceMul, Nat.reduceSub, BEq.rfl, beq_self_eq_true, Int.reduceToNat]
  (refine hK _ ?_)
  clear hK K
  refine AWP.seq ?_
  refine AWP.regS G_ok spec_l04Day_DD hc (by kernel_rfl) (fun K hK => ?_); simp only [ea, gv, sv, D_spec_l00In, reduceCtorEq, reduceIte, Nat.reduceBEq, Nat.reduceAdd, Nat.reduceEqDiff, Nat.reduceLT, Nat.reduceLeDiff, Nat.reduceMul, Nat.reduceSub, BEq.rfl, beq_self_eq_true, Int.reduceToNat]
  (refine hK _ ?_)
  clear hK K
  refine AWP.ret ?_
  subst hR
  (simp only [en, si, ea, gv, sv, hk, reduceCtorEq, reduceIte, Nat.reduceBEq, Nat.reduceAdd, Nat.reduceEqDiff, Nat.reduceLT, Nat.reduceLeDiff, Nat.reduceMul, Nat.reduceSub, BEq.rfl, beq_self_eq_true, Int.reduceToNat]; done)
def D_spec_l04Day : DF
  | [x0] => some (.bool (spec_l04Day (rdI x0)), false, [wI .i64 x0])
  | _ => none
theorem D_spec_l04Day_ok : OkD Tryd.prog 22 D_spec_l04Day := by
  intro xs r z ob h ho
  unfold D_spec_l04Day at h
  split at h
  · simp only [Option.some.injEq, Prod.mk.injEq] at h
    obtain ⟨rfl, rfl, rfl⟩ := h
    obtain ⟨h0, _⟩ := ho
    exact Den.sim (spec_l04Day_den _ ) (simOL_cons (wI_sim h0).1 <| trivial) (noIdL_cons (wI_sim h0).2 <| rfl) rfl
  · cases h
end Go.Ab

namespace Go.Ab
open Go Go.Proofs
theorem spec_l30One_DD : DOk Tryd.prog (DD [(20, dP D_spec_l20Number), (21, dP D_spec_l00In), (22, dP D_spec_l04Day)]) := DD_cons D_spec_l20Number_ok.e <| DD_cons D_spec_l00In_ok.e <| DD_cons D_spec_l04Day_ok.e <| DD_nil _
def spec_l30One (a0 : Visit) : Bool :=
  (((spec_l20Number a0.Aid) && (spec_l00In a0.Every 1 3650)) && (spec_l04Day a0.Last))
theorem spec_l30One_den (a0 : Visit)  : Den Tryd.prog 12 [.ep (eVisit a0)] (.bool (spec_l30One a0)) := by
  generalize hR : spec_l30One a0 = r
  unfold spec_l30One at hR
  refine den_intro G_ok Tryd.func12 (by kernel_rfl) rfl Tryd.ntmps12 (by rw [Tryd.results12]) (by simp) rfl ?_
  intro c hL hc hk
  clear hL
  simp only [pars, Nat.zero_add]
  refine AWP.seq ?_
  refine AWP.regS G_ok spec_l30One_DD hc (by kernel_rfl) (fun K hK => ?_); simp only [ea, gv, sv, D_spec_l20Number, D_spec_l00In, D_spec_l04Day, reduceCtorEq, reduceIte, Nat.reduceBEq, Nat.reduceAdd, Nat.reduceEqDiff, Nat.reduceLT, Nat.reduceLeDiff, Nat.reduceMul, Nat.reduceSub, BEq.rfl, beq_self_eq_true, Int.reduceToNat]
  (refine hK _ ?_)
  clear hK K
  refine AWP.seq ?_
  refine AWP.regS G_ok spec_l30One_DD hc (by kernel_rfl) (fun K hK => ?_); simp only [ea, gv, sv, D_spec_l20Number, D_spec_l00In, D_spec_l04Day, reduceCtorEq, reduceIte, Nat.reduceBEq, Nat.reduceAdd, Nat.reduceEqDiff, Nat.reduceLT, Nat.reduceLeDiff, Nat.reduceMul, Nat.reduceSub, BEq.rfl, beq_self_eq_true, Int.reduceToNat]
  (refine hK _ ?_)
  clear hK K
  refine AWP.ret ?_
  subst hR
  (simp only [en, si, ea, gv, sv, hk, reduceCtorEq, reduceIte, Nat.reduceBEq, Nat.reduceAdd, Nat.reduceEqDiff, Nat.reduceLT, Nat.reduceLeDiff, Nat.reduceMul, Nat.reduceSub, BEq.rfl, beq_self_eq_true, Int.reduceToNat]; done)
def D_spec_l30One : DF
  | [x0] => some (.bool (spec_l30One (rdP dVisit x0)), false, [wP eVisit dVisit x0])
  | _ => none
theorem D_spec_l30One_ok : OkD Tryd.prog 12 D_spec_l30One := by
  intro xs r z ob h ho
  unfold D_spec_l30One at h
  split at h
  · simp only [Option.some.injEq, Prod.mk.injEq] at h
    obtain ⟨rfl, rfl, rfl⟩ := h
    obtain ⟨h0, _⟩ := ho
    exact Den.sim (spec_l30One_den _ ) (simOL_cons (wP_sim h0).1 <| trivial) (noIdL_cons (wP_sim h0).2 <| rfl) rfl
  · cases h
end Go.Ab

namespace Go.Ab
open Go Go.Proofs
theorem spec_l01Dec_DD : DOk Tryd.prog (DD []) := DD_nil _
def spec_l01Dec_b1 (a0 : Int) (s1 : Int × List Int) : Except (Sum ((List UInt8)) (Int × List Int)) (Int × List Int) :=
  (bif (s1.1 != 0) then (bif decide ((s1.1.tmod 10) < 0) then .ok (IntKind.wrap .i64 (s1.1.tdiv 10), s1.2 ++ [IntKind.wrap .u8 (IntKind.wrap .i64 (48 + (IntKind.wrap .i64 (0 - (s1.1.tmod 10)))))]) else .ok (IntKind.wrap .i64 (s1.1.tdiv 10), s1.2 ++ [IntKind.wrap .u8 (IntKind.wrap .i64 (48 + (s1.1.tmod 10)))])) else .error (.inr (s1.1, s1.2)))
def spec_l01Dec_b2 (a0 : Int) (s1 : Int × List Int) (s2 : Int × List Int) : Except (Sum ((List UInt8)) (Int × List Int)) (Int × List Int) :=
  (bif decide (0 ≤ s2.1) then .ok (IntKind.wrap .i64 (s2.1 - 1), s2.2 ++ [((s1.2 ++ [45]).getD ((s2.1).toNat) default)]) else .error (.inr (s2.1, s2.2)))
def spec_l01Dec_b3 (a0 : Int) (s1 : Int × List Int) (s3 : Int × List Int) : Except (Sum ((List UInt8)) (Int × List Int)) (Int × List Int) :=
  (bif decide (0 ≤ s3.1) then .ok (IntKind.wrap .i64 (s3.1 - 1), s3.2 ++ [(s1.2.getD ((s3.1).toNat) default)]) else .error (.inr (s3.1, s3.2)))
def spec_l01Dec (a0 : Int) : (List UInt8) :=
  (bif (a0 == 0) then [48] else (match loopW (spec_l01Dec_b1 a0) (((a0).natAbs) + 1) (a0, ([] : List Int)) with | .error (.inl e) => e | .error (.inr s1) => (bif decide (a0 < 0) then (match loopW (spec_l01Dec_b2 a0 s1) ((((IntKind.wrap .i64 ((s1.2.length + 1 : Int) - 1)) + 1).toNat) + 1) (IntKind.wrap .i64 ((s1.2.length + 1 : Int) - 1), ([] : List Int)) with | .error (.inl e) => e | .error (.inr s2) => (s2.2.map fun z => UInt8.ofNat z.toNat) | .ok _ => default) else (match loopW (spec_l01Dec_b3 a0 s1) ((((IntKind.wrap .i64 ((s1.2.length : Int) - 1)) + 1).toNat) + 1) (IntKind.wrap .i64 ((s1.2.length : Int) - 1), ([] : List Int)) with | .error (.inl e) => e | .error (.inr s3) => (s3.2.map fun z => UInt8.ofNat z.toNat) | .ok _ => default)) | .ok _ => default))
theorem spec_l01Dec_den (a0 : Int) (hp0 : -1000000000000 ≤ a0) (hp1 : a0 ≤ 1000000000000) : Den Tryd.prog 23 [.int .i64 a0] (.str (spec_l01Dec a0)) := by
  generalize hR : spec_l01Dec a0 = r
  unfold spec_l01Dec at hR
  refine den_intro G_ok Tryd.func23 (by kernel_rfl) rfl Tryd.ntmps23 (by rw [Tryd.results23]) (by simp) rfl ?_
  intro c hL hc hk
  clear hL
  simp only [pars, Nat.zero_add]
  refine AWP.seq ?_
  refine AWP.regS G_ok spec_l01Dec_DD hc (by kernel_rfl) (fun K hK => ?_); simp only [ea, gv, sv, reduceCtorEq, reduceIte, Nat.reduceBEq, Nat.reduceAdd, Nat.reduceEqDiff, Nat.reduceLT, Nat.reduceLeDiff, Nat.reduceMul, Nat.reduceSub, BEq.rfl, beq_self_eq_true, Int.reduceToNat]
  (refine hK _ ?_)
  clear hK K
  refine AWP.seq ?_
  refine AWP.seq ?_
  refine AWP.regS G_ok spec_l01Dec_DD hc (by kernel_rfl) (fun K hK => ?_); simp only [ea, gv, sv, reduceCtorEq, reduceIte, Nat.reduceBEq, Nat.reduceAdd, Nat.reduceEqDiff, Nat.reduceLT, Nat.reduceLeDiff, Nat.reduceMul, Nat.reduceSub, BEq.rfl, beq_self_eq_true, Int.reduceToNat]
  (refine hK _ ?_)
  clear hK K
  refine AWP.cond rfl (fun hb => ?_) (fun hb => ?_)
  · (simp only [hb, cond_true] at hR)
    refine AWP.seq ?_
    refine AWP.regS G_ok spec_l01Dec_DD hc (by kernel_rfl) (fun K hK => ?_); simp only [ea, gv, sv, reduceCtorEq, reduceIte, Nat.reduceBEq, Nat.reduceAdd, Nat.reduceEqDiff, Nat.reduceLT, Nat.reduceLeDiff, Nat.reduceMul, Nat.reduceSub, BEq.rfl, beq_self_eq_true, Int.reduceToNat]
    (refine hK _ ?_)
    clear hK K
    refine AWP.ret ?_
    subst hR
    (simp only [en, si, ea, gv, sv, hk, reduceCtorEq, reduceIte, Nat.reduceBEq, Nat.reduceAdd, Nat.reduceEqDiff, Nat.reduceLT, Nat.reduceLeDiff, Nat.reduceMul, Nat.reduceSub, BEq.rfl, beq_self_eq_true, Int.reduceToNat]; done)
  · (simp only [hb, cond_false] at hR)
    refine AWP.skip ?_
    refine AWP.seq ?_
    refine AWP.regS G_ok spec_l01Dec_DD hc (by kernel_rfl) (fun K hK => ?_); simp only [ea, gv, sv, reduceCtorEq, reduceIte, Nat.reduceBEq, Nat.reduceAdd, Nat.reduceEqDiff, Nat.reduceLT, Nat.reduceLeDiff, Nat.reduceMul, Nat.reduceSub, BEq.rfl, beq_self_eq_true, Int.reduceToNat]
    (refine hK _ ?_)
    clear hK K
    refine AWP.seq ?_
    refine AWP.seq ?_
    refine AWP.regS G_ok spec_l01Dec_DD hc (by kernel_rfl) (fun K hK => ?_); simp only [ea, gv, sv, reduceCtorEq, reduceIte, Nat.reduceBEq, Nat.reduceAdd, Nat.reduceEqDiff, Nat.reduceLT, Nat.reduceLeDiff, Nat.reduceMul, Nat.reduceSub, BEq.rfl, beq_self_eq_true, Int.reduceToNat]
    (refine hK _ ?_)
    clear hK K
    refine AWP.block ?_
    generalize hz1 : loopW (spec_l01Dec_b1 a0) (((a0).natAbs) + 1) (a0, ([] : List Int)) = z1 at hR
    refine AWP.whileW (spec_l01Dec_b1 a0) (fun s1 => ⟨[(0, .int .i64 a0), (3, .ref 0 1 0 s1.2.length), (4, .int .i64 s1.1)], [.arr 5 1 s1.2.length (fun j => eIu8 (s1.2.getD j default))]⟩) (fun s1 => -1000000000000 ≤ s1.1 ∧ s1.1 ≤ 1000000000000 ∧ s1.2.length + (s1.1).natAbs ≤ 1000000000000) (fun s1 => (s1.1).natAbs) (((a0).natAbs) + 1) (a0, ([] : List Int)) [0] hz1 (by omega) (by ((and_intros <;> simp only [ln] <;> omega))) (by (simp only [si, ea, gv, sv, hk, reduceCtorEq, reduceIte, Nat.reduceBEq, Nat.reduceAdd, Nat.reduceEqDiff, Nat.reduceLT, Nat.reduceLeDiff, Nat.reduceMul, Nat.reduceSub, BEq.rfl, beq_self_eq_true, Int.reduceToNat]; trivial)) ?_
    clear hz1
    intro s1 k1 hW1 hm1 hz1
    simp only [spec_l01Dec_b1] at hz1
    refine AWP.seq ?_
    refine AWP.seq ?_
    refine AWP.regS G_ok spec_l01Dec_DD hc (by kernel_rfl) (fun K hK => ?_); simp only [ea, gv, sv, reduceCtorEq, reduceIte, Nat.reduceBEq, Nat.reduceAdd, Nat.reduceEqDiff, Nat.reduceLT, Nat.reduceLeDiff, Nat.reduceMul, Nat.reduceSub, BEq.rfl, beq_self_eq_true, Int.reduceToNat]
    (refine hK _ ?_)
    clear hK K
    refine AWP.cond rfl (fun hb => ?_) (fun hb => ?_)
    · (simp only [hb, cond_true] at hz1)
      refine AWP.skip ?_
      refine AWP.seq ?_
      refine AWP.block ?_
      refine AWP.seq ?_
      refine AWP.regS G_ok spec_l01Dec_DD hc (by kernel_rfl) (fun K hK => ?_); simp only [ea, gv, sv, reduceCtorEq, reduceIte, Nat.reduceBEq, Nat.reduceAdd, Nat.reduceEqDiff, Nat.reduceLT, Nat.reduceLeDiff, Nat.reduceMul, Nat.reduceSub, BEq.rfl, beq_self_eq_true, Int.reduceToNat]
      (refine ⟨by (trivial), hK _ ?_⟩)
      clear hK K
      refine AWP.seq ?_
      refine AWP.seq ?_
      refine AWP.regS G_ok spec_l01Dec_DD hc (by kernel_rfl) (fun K hK => ?_); simp only [ea, gv, sv, reduceCtorEq, reduceIte, Nat.reduceBEq, Nat.reduceAdd, Nat.reduceEqDiff, Nat.reduceLT, Nat.reduceLeDiff, Nat.reduceMul, Nat.reduceSub, BEq.rfl, beq_self_eq_true, Int.reduceToNat]
      (refine hK _ ?_)
      clear hK K
      refine AWP.cond rfl (fun hb => ?_) (fun hb => ?_)
      · (simp only [hb, cond_true] at hz1)
        refine AWP.regS G_ok spec_l01Dec_DD hc (by kernel_rfl) (fun K hK => ?_); simp only [ea, gv, sv, reduceCtorEq, reduceIte, Nat.reduceBEq, Nat.reduceAdd, Nat.reduceEqDiff, Nat.reduceLT, Nat.reduceLeDiff, Nat.reduceMul, Nat.reduceSub, BEq.rfl, beq_self_eq_true, Int.reduceToNat]
        (refine hK _ ?_)
        clear hK K
        refine AWP.regS G_ok spec_l01Dec_DD hc (by kernel_rfl) (fun K hK => ?_); simp only [ea, gv, sv, reduceCtorEq, reduceIte, Nat.reduceBEq, Nat.reduceAdd, Nat.reduceEqDiff, Nat.reduceLT, Nat.reduceLeDiff, Nat.reduceMul, Nat.reduceSub, BEq.rfl, beq_self_eq_true, Int.reduceToNat]
        (refine ⟨by (omega), hK _ ?_⟩)
        clear hK K
        refine AWP.regS G_ok spec_l01Dec_DD hc (by kernel_rfl) (fun K hK => ?_); simp only [ea, gv, sv, reduceCtorEq, reduceIte, Nat.reduceBEq, Nat.reduceAdd, Nat.reduceEqDiff, Nat.reduceLT, Nat.reduceLeDiff, Nat.reduceMul, Nat.reduceSub, BEq.rfl, beq_self_eq_true, Int.reduceToNat]
        (refine ⟨by (trivial), hK _ ?_⟩)
        clear hK K
        exact ⟨_, [2], by (have h10 := tdiv10 s1.1; simp only [ob, ln] at *; omega), by (have h10 := tdiv10 s1.1; refine ⟨?_, ?_, ?_⟩ <;> simp only [ob, ln] at * <;> omega), hz1, by (simp only [si, ea, gv, sv, hk, reduceCtorEq, reduceIte, Nat.reduceBEq, Nat.reduceAdd, Nat.reduceEqDiff, Nat.reduceLT, Nat.reduceLeDiff, Nat.reduceMul, Nat.reduceSub, BEq.rfl, beq_self_eq_true, Int.reduceToNat]; (and_intros <;> first | trivial | (simp only [ln]; done) | (intro j hj; simp only [pw, Bool.cond_eq_ite, Bool.and_eq_true, decide_eq_true_eq]; (try rw [subL_getD _ _ _ _ (by assumption)]); (try rw [clearL_getD _ _ _ _ (by omega)]); (repeat' split) <;> first | rfl | omega)))⟩
      · (simp only [hb, cond_false] at hz1)
        refine AWP.skip ?_
        refine AWP.regS G_ok spec_l01Dec_DD hc (by kernel_rfl) (fun K hK => ?_); simp only [ea, gv, sv, reduceCtorEq, reduceIte, Nat.reduceBEq, Nat.reduceAdd, Nat.reduceEqDiff, Nat.reduceLT, Nat.reduceLeDiff, Nat.reduceMul, Nat.reduceSub, BEq.rfl, beq_self_eq_true, Int.reduceToNat]
        (refine ⟨by (omega), hK _ ?_⟩)
        clear hK K
        refine AWP.regS G_ok spec_l01Dec_DD hc (by kernel_rfl) (fun K hK => ?_); simp only [ea, gv, sv, reduceCtorEq, reduceIte, Nat.reduceBEq, Nat.reduceAdd, Nat.reduceEqDiff, Nat.reduceLT, Nat.reduceLeDiff, Nat.reduceMul, Nat.reduceSub, BEq.rfl, beq_self_eq_true, Int.reduceToNat]
        (refine ⟨by (trivial), hK _ ?_⟩)
        clear hK K
        exact ⟨_, [2], by (have h10 := tdiv10 s1.1; simp only [ob, ln] at *; omega), by (have h10 := tdiv10 s1.1; refine ⟨?_, ?_, ?_⟩ <;> simp only [ob, ln] at * <;> omega), hz1, by (simp only [si, ea, gv, sv, hk, reduceCtorEq, reduceIte, Nat.reduceBEq, Nat.reduceAdd, Nat.reduceEqDiff, Nat.reduceLT, Nat.reduceLeDiff, Nat.reduceMul, Nat.reduceSub, BEq.rfl, beq_self_eq_true, Int.reduceToNat]; (and_intros <;> first | trivial | (simp only [ln]; done) | (intro j hj; simp only [pw, Bool.cond_eq_ite, Bool.and_eq_true, decide_eq_true_eq]; (try rw [subL_getD _ _ _ _ (by assumption)]); (try rw [clearL_getD _ _ _ _ (by omega)]); (repeat' split) <;> first | rfl | omega)))⟩
    · (simp only [hb, cond_false] at hz1)
      refine AWP.exit ?_
      refine exitTo_here ?_
      subst hz1; dsimp only at hR
      refine AWP.seq ?_
      refine AWP.seq ?_
      refine AWP.regS G_ok spec_l01Dec_DD hc (by kernel_rfl) (fun K hK => ?_); simp only [ea, gv, sv, reduceCtorEq, reduceIte, Nat.reduceBEq, Nat.reduceAdd, Nat.reduceEqDiff, Nat.reduceLT, Nat.reduceLeDiff, Nat.reduceMul, Nat.reduceSub, BEq.rfl, beq_self_eq_true, Int.reduceToNat]
      (refine hK _ ?_)
      clear hK K
      refine AWP.cond rfl (fun hb => ?_) (fun hb => ?_)
      · (simp only [hb, cond_true] at hR)
        refine AWP.regS G_ok spec_l01Dec_DD hc (by kernel_rfl) (fun K hK => ?_); simp only [ea, gv, sv, reduceCtorEq, reduceIte, Nat.reduceBEq, Nat.reduceAdd, Nat.reduceEqDiff, Nat.reduceLT, Nat.reduceLeDiff, Nat.reduceMul, Nat.reduceSub, BEq.rfl, beq_self_eq_true, Int.reduceToNat]
        (refine ⟨by (omega), hK _ ?_⟩)
        clear hK K
        refine AWP.seq ?_
        refine AWP.regS G_ok spec_l01Dec_DD hc (by kernel_rfl) (fun K hK => ?_); simp only [ea, gv, sv, reduceCtorEq, reduceIte, Nat.reduceBEq, Nat.reduceAdd, Nat.reduceEqDiff, Nat.reduceLT, Nat.reduceLeDiff, Nat.reduceMul, Nat.reduceSub, BEq.rfl, beq_self_eq_true, Int.reduceToNat]
        (refine hK _ ?_)
        clear hK K
        refine AWP.seq ?_
        refine AWP.seq ?_
        refine AWP.regS G_ok spec_l01Dec_DD hc (by kernel_rfl) (fun K hK => ?_); simp only [ea, gv, sv, reduceCtorEq, reduceIte, Nat.reduceBEq, Nat.reduceAdd, Nat.reduceEqDiff, Nat.reduceLT, Nat.reduceLeDiff, Nat.reduceMul, Nat.reduceSub, BEq.rfl, beq_self_eq_true, Int.reduceToNat]
        (refine hK _ ?_)
        clear hK K
        refine AWP.block ?_
        generalize hz2 : loopW (spec_l01Dec_b2 a0 (s1.1, s1.2)) ((((IntKind.wrap .i64 ((s1.2.length + 1 : Int) - 1)) + 1).toNat) + 1) (IntKind.wrap .i64 ((s1.2.length + 1 : Int) - 1), ([] : List Int)) = z2 at hR
        refine AWP.whileW (spec_l01Dec_b2 a0 (s1.1, s1.2)) (fun s2 => ⟨[(3, .ref 0 1 0 (s1.2.length + 1)), (6, .ref 1 1 0 s2.2.length), (7, .int .i64 s2.1)], [.arr 5 1 (s1.2 ++ [45]).length (fun j => eIu8 ((s1.2 ++ [45]).getD j default)), .arr 5 1 s2.2.length (fun j => eIu8 (s2.2.getD j default))]⟩) (fun s2 => -1 ≤ s2.1 ∧ s2.1 ≤ s1.2.length ∧ s2.1 ≤ 1000000000000 ∧ s2.2.length + (s2.1 + 1).toNat ≤ 1000000000001) (fun s2 => (s2.1 + 1).toNat) ((((IntKind.wrap .i64 ((s1.2.length + 1 : Int) - 1)) + 1).toNat) + 1) (IntKind.wrap .i64 ((s1.2.length + 1 : Int) - 1), ([] : List Int)) [2, 3] hz2 (by omega) (by ((and_intros <;> simp only [ob, ln] at * <;> omega))) (by (simp only [si, ea, gv, sv, hk, reduceCtorEq, reduceIte, Nat.reduceBEq, Nat.reduceAdd, Nat.reduceEqDiff, Nat.reduceLT, Nat.reduceLeDiff, Nat.reduceMul, Nat.reduceSub, BEq.rfl, beq_self_eq_true, Int.reduceToNat]; (and_intros <;> first | rfl | trivial | (simp only [ln]; done) | (intro j hj; simp only [pw, Bool.cond_eq_ite, Bool.and_eq_true, decide_eq_true_eq]; (try rw [subL_getD _ _ _ _ (by assumption)]); (try rw [clearL_getD _ _ _ _ (by omega)]); (repeat' split) <;> first | rfl | omega)))) ?_
        clear hz2
        intro s2 k2 hW2 hm2 hz2
        simp only [spec_l01Dec_b2] at hz2
        refine AWP.seq ?_
        refine AWP.seq ?_
        refine AWP.regS G_ok spec_l01Dec_DD hc (by kernel_rfl) (fun K hK => ?_); simp only [ea, gv, sv, reduceCtorEq, reduceIte, Nat.reduceBEq, Nat.reduceAdd, Nat.reduceEqDiff, Nat.reduceLT, Nat.reduceLeDiff, Nat.reduceMul, Nat.reduceSub, BEq.rfl, beq_self_eq_true, Int.reduceToNat]
        (refine hK _ ?_)
        clear hK K
        refine AWP.cond rfl (fun hb => ?_) (fun hb => ?_)
        · (simp only [hb, cond_true] at hz2)
          refine AWP.skip ?_
          refine AWP.seq ?_
          refine AWP.block ?_
          refine AWP.regS G_ok spec_l01Dec_DD hc (by kernel_rfl) (fun K hK => ?_); simp only [ea, gv, sv, reduceCtorEq, reduceIte, Nat.reduceBEq, Nat.reduceAdd, Nat.reduceEqDiff, Nat.reduceLT, Nat.reduceLeDiff, Nat.reduceMul, Nat.reduceSub, BEq.rfl, beq_self_eq_true, Int.reduceToNat]
          (refine ⟨by (((try clear hK K); (repeat' (apply And.intro)) <;> first | omega | (simp only [ob, ln, bdv, sv] at *; omega))), hK _ ?_⟩)
          clear hK K
          refine AWP.regS G_ok spec_l01Dec_DD hc (by kernel_rfl) (fun K hK => ?_); simp only [ea, gv, sv, reduceCtorEq, reduceIte, Nat.reduceBEq, Nat.reduceAdd, Nat.reduceEqDiff, Nat.reduceLT, Nat.reduceLeDiff, Nat.reduceMul, Nat.reduceSub, BEq.rfl, beq_self_eq_true, Int.reduceToNat]
          (refine hK _ ?_)
          clear hK K
          exact ⟨_, [0, 3], by ((simp only [ob, ln] at *; omega)), by ((and_intros <;> simp only [ob, ln] at * <;> omega)), hz2, by (simp only [si, ea, gv, sv, hk, reduceCtorEq, reduceIte, Nat.reduceBEq, Nat.reduceAdd, Nat.reduceEqDiff, Nat.reduceLT, Nat.reduceLeDiff, Nat.reduceMul, Nat.reduceSub, BEq.rfl, beq_self_eq_true, Int.reduceToNat]; (and_intros <;> first | trivial | (simp only [ln]; done) | (intro j hj; simp only [pw, Bool.cond_eq_ite, Bool.and_eq_true, decide_eq_true_eq]; (try rw [subL_getD _ _ _ _ (by assumption)]); (try rw [clearL_getD _ _ _ _ (by omega)]); (repeat' split) <;> first | rfl | omega)))⟩
        · (simp only [hb, cond_false] at hz2)
          refine AWP.exit ?_
          refine exitTo_here ?_
          subst hz2; dsimp only at hR
          refine AWP.seq ?_
          refine AWP.regS G_ok spec_l01Dec_DD hc (by kernel_rfl) (fun K hK => ?_); simp only [ea, gv, sv, reduceCtorEq, reduceIte, Nat.reduceBEq, Nat.reduceAdd, Nat.reduceEqDiff, Nat.reduceLT, Nat.reduceLeDiff, Nat.reduceMul, Nat.reduceSub, BEq.rfl, beq_self_eq_true, Int.reduceToNat]
          (refine ⟨by (omega), hK _ ?_⟩)
          clear hK K
          refine AWP.ret ?_
          subst hR
          (simp only [en, si, ea, gv, sv, hk, reduceCtorEq, reduceIte, Nat.reduceBEq, Nat.reduceAdd, Nat.reduceEqDiff, Nat.reduceLT, Nat.reduceLeDiff, Nat.reduceMul, Nat.reduceSub, BEq.rfl, beq_self_eq_true, Int.reduceToNat]; done)
      · (simp only [hb, cond_false] at hR)
        refine AWP.skip ?_
        refine AWP.seq ?_
        refine AWP.regS G_ok spec_l01Dec_DD hc (by kernel_rfl) (fun K hK => ?_); simp only [ea, gv, sv, reduceCtorEq, reduceIte, Nat.reduceBEq, Nat.reduceAdd, Nat.reduceEqDiff, Nat.reduceLT, Nat.reduceLeDiff, Nat.reduceMul, Nat.reduceSub, BEq.rfl, beq_self_eq_true, Int.reduceToNat]
        (refine hK _ ?_)
        clear hK K
        refine AWP.seq ?_
        refine AWP.seq ?_
        refine AWP.regS G_ok spec_l01Dec_DD hc (by kernel_rfl) (fun K hK => ?_); simp only [ea, gv, sv, reduceCtorEq, reduceIte, Nat.reduceBEq, Nat.reduceAdd, Nat.reduceEqDiff, Nat.reduceLT, Nat.reduceLeDiff, Nat.reduceMul, Nat.reduceSub, BEq.rfl, beq_self_eq_true, Int.reduceToNat]
        (refine hK _ ?_)
        clear hK K
        refine AWP.block ?_
        generalize hz3 : loopW (spec_l01Dec_b3 a0 (s1.1, s1.2)) ((((IntKind.wrap .i64 ((s1.2.length : Int) - 1)) + 1).toNat) + 1) (IntKind.wrap .i64 ((s1.2.length : Int) - 1), ([] : List Int)) = z3 at hR
        refine AWP.whileW (spec_l01Dec_b3 a0 (s1.1, s1.2)) (fun s3 => ⟨[(3, .ref 0 1 0 s1.2.length), (6, .ref 1 1 0 s3.2.length), (7, .int .i64 s3.1)], [.arr 5 1 s1.2.length (fun j => eIu8 (s1.2.getD j default)), .arr 5 1 s3.2.length (fun j => eIu8 (s3.2.getD j default))]⟩) (fun s3 => -1 ≤ s3.1 ∧ s3.1 < s1.2.length ∧ s3.1 ≤ 1000000000000 ∧ s3.2.length + (s3.1 + 1).toNat ≤ 1000000000001) (fun s3 => (s3.1 + 1).toNat) ((((IntKind.wrap .i64 ((s1.2.length : Int) - 1)) + 1).toNat) + 1) (IntKind.wrap .i64 ((s1.2.length : Int) - 1), ([] : List Int)) [0, 1] hz3 (by omega) (by ((and_intros <;> simp only [ob, ln] at * <;> omega))) (by (simp only [si, ea, gv, sv, hk, reduceCtorEq, reduceIte, Nat.reduceBEq, Nat.reduceAdd, Nat.reduceEqDiff, Nat.reduceLT, Nat.reduceLeDiff, Nat.reduceMul, Nat.reduceSub, BEq.rfl, beq_self_eq_true, Int.reduceToNat]; trivial)) ?_
        clear hz3
        intro s3 k3 hW3 hm3 hz3
        simp only [spec_l01Dec_b3] at hz3
        refine AWP.seq ?_
        refine AWP.seq ?_
        refine AWP.regS G_ok spec_l01Dec_DD hc (by kernel_rfl) (fun K hK => ?_); simp only [ea, gv, sv, reduceCtorEq, reduceIte, Nat.reduceBEq, Nat.reduceAdd, Nat.reduceEqDiff, Nat.reduceLT, Nat.reduceLeDiff, Nat.reduceMul, Nat.reduceSub, BEq.rfl, beq_self_eq_true, Int.reduceToNat]
        (refine hK _ ?_)
        clear hK K
        refine AWP.cond rfl (fun hb => ?_) (fun hb => ?_)
        · (simp only [hb, cond_true] at hz3)
          refine AWP.skip ?_
          refine AWP.seq ?_
          refine AWP.block ?_
          refine AWP.regS G_ok spec_l01Dec_DD hc (by kernel_rfl) (fun K hK => ?_); simp only [ea, gv, sv, reduceCtorEq, reduceIte, Nat.reduceBEq, Nat.reduceAdd, Nat.reduceEqDiff, Nat.reduceLT, Nat.reduceLeDiff, Nat.reduceMul, Nat.reduceSub, BEq.rfl, beq_self_eq_true, Int.reduceToNat]
          (refine ⟨by (((try clear hK K); (repeat' (apply And.intro)) <;> first | omega | (simp only [ob, ln, bdv, sv] at *; omega))), hK _ ?_⟩)
          clear hK K
          refine AWP.regS G_ok spec_l01Dec_DD hc (by kernel_rfl) (fun K hK => ?_); simp only [ea, gv, sv, reduceCtorEq, reduceIte, Nat.reduceBEq, Nat.reduceAdd, Nat.reduceEqDiff, Nat.reduceLT, Nat.reduceLeDiff, Nat.reduceMul, Nat.reduceSub, BEq.rfl, beq_self_eq_true, Int.reduceToNat]
          (refine hK _ ?_)
          clear hK K
          exact ⟨_, [0, 3], by ((simp only [ob, ln] at *; omega)), by ((and_intros <;> simp only [ob, ln] at * <;> omega)), hz3, by (simp only [si, ea, gv, sv, hk, reduceCtorEq, reduceIte, Nat.reduceBEq, Nat.reduceAdd, Nat.reduceEqDiff, Nat.reduceLT, Nat.reduceLeDiff, Nat.reduceMul, Nat.reduceSub, BEq.rfl, beq_self_eq_true, Int.reduceToNat]; (and_intros <;> first | trivial | (simp only [ln]; done) | (intro j hj; simp only [pw, Bool.cond_eq_ite, Bool.and_eq_true, decide_eq_true_eq]; (try rw [subL_getD _ _ _ _ (by assumption)]); (try rw [clearL_getD _ _ _ _ (by omega)]); (repeat' split) <;> first | rfl | omega)))⟩
        · (simp only [hb, cond_false] at hz3)
          refine AWP.exit ?_
          refine exitTo_here ?_
          subst hz3; dsimp only at hR
          refine AWP.seq ?_
          refine AWP.regS G_ok spec_l01Dec_DD hc (by kernel_rfl) (fun K hK => ?_); simp only [ea, gv, sv, reduceCtorEq, reduceIte, Nat.reduceBEq, Nat.reduceAdd, Nat.reduceEqDiff, Nat.reduceLT, Nat.reduceLeDiff, Nat.reduceMul, Nat.reduceSub, BEq.rfl, beq_self_eq_true, Int.reduceToNat]
          (refine ⟨by (omega), hK _ ?_⟩)
          clear hK K
          refine AWP.ret ?_
          subst hR
          (simp only [en, si, ea, gv, sv, hk, reduceCtorEq, reduceIte, Nat.reduceBEq, Nat.reduceAdd, Nat.reduceEqDiff, Nat.reduceLT, Nat.reduceLeDiff, Nat.reduceMul, Nat.reduceSub, BEq.rfl, beq_self_eq_true, Int.reduceToNat]; done)
def D_spec_l01Dec : DF
  | [x0] => some (.str (spec_l01Dec (rdI x0)), false, [wI .i64 x0, -1000000000000 ≤ (rdI x0), (rdI x0) ≤ 1000000000000])
  | _ => none
theorem D_spec_l01Dec_ok : OkD Tryd.prog 23 D_spec_l01Dec := by
  intro xs r z ob h ho
  unfold D_spec_l01Dec at h
  split at h
  · simp only [Option.some.injEq, Prod.mk.injEq] at h
    obtain ⟨rfl, rfl, rfl⟩ := h
    obtain ⟨h0, hp0, hp1, _⟩ := ho
    exact Den.sim (spec_l01Dec_den _ hp0 hp1) (simOL_cons (wI_sim h0).1 <| trivial) (noIdL_cons (wI_sim h0).2 <| rfl) rfl
  · cases h
end Go.Ab
