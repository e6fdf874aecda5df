/- A part of a proof: walks of functions and lemmas of our own. No conditions. -/
import Derived.Test.YtphjpngpmhammaaTAj
import Derived.Test.YtphjpngpmhammaaTAm
import Derived.Test.YtphjpngpmhammaaTAh
set_option linter.unusedSectionVars false
set_option linter.unusedVariables false
set_option linter.unusedSimpArgs false
namespace Go.Ab
open Go Go.Proofs
theorem impl_stockCode_DD : DOk Try.prog (DD [(102, dP D_impl_isDay), (18, dP D_impl_ValidStore), (70, dP D_impl_Store_spareOf)]) := DD_cons D_impl_isDay_ok.e <| DD_cons D_impl_ValidStore_ok.e <| DD_cons D_impl_Store_spareOf_ok.e <| DD_nil _
def impl_stockCode (a0 : Store) (a1 : (List UInt8)) (a2 : Int) : (Int × Int) :=
  (bif (!(impl_ValidStore a0)) then (0, 1) else (bif (!(impl_isDay a2)) then (0, 2) else (bif (!((impl_Store_spareOf a0 a1).2)) then (0, 3) else ((impl_Store_spareOf a0 a1).1, 0))))
theorem impl_stockCode_den (a0 : Store) (a1 : (List UInt8)) (a2 : Int) (hb0 : bdStore a0) (hb1 : a1.length < 1099511627776) : Den Try.prog 87 [.agg (eStore a0), .str a1, .int .i64 a2] (.tup [.int .i64 ((impl_stockCode a0 a1 a2).1), .int .i64 ((impl_stockCode a0 a1 a2).2)]) := by
  generalize hR : impl_stockCode a0 a1 a2 = r
  unfold impl_stockCode at hR
  refine den_intro G_ok Try.func87 (by kernel_rfl) rfl Try.ntmps87 (by rw [Try.results87]) (by simp) rfl ?_
  intro c hL hc hk
  obtain ⟨hL0, hL1, hL2, _⟩ := hL
  have hw0 : bwStore a0 := Store_lens a0 hL0
  have hw1 : a1.length < 9223372036854775808 := Nat.lt_succ_of_le hL1
  clear hL0 hL1 hL2
  simp only [pars, Nat.zero_add]
  refine AWP.seq ?_
  refine AWP.regS G_ok impl_stockCode_DD hc (by kernel_rfl) (fun K hK => ?_); simp only [ea, gv, sv, D_impl_isDay, D_impl_ValidStore, D_impl_Store_spareOf, reduceCtorEq, reduceIte, Nat.reduceBEq, Nat.reduceAdd, Nat.reduceEqDiff, Nat.reduceLT, Nat.reduceLeDiff, Nat.reduceMul, Nat.reduceSub, BEq.rfl, beq_self_eq_true, Int.reduceToNat]
  (refine hK _ ?_)
  clear hK K
  refine AWP.seq ?_
  refine AWP.seq ?_
  refine AWP.regS G_ok impl_stockCode_DD hc (by kernel_rfl) (fun K hK => ?_); simp only [ea, gv, sv, D_impl_isDay, D_impl_ValidStore, D_impl_Store_spareOf, reduceCtorEq, reduceIte, Nat.reduceBEq, Nat.reduceAdd, Nat.reduceEqDiff, Nat.reduceLT, Nat.reduceLeDiff, Nat.reduceMul, Nat.reduceSub, BEq.rfl, beq_self_eq_true, Int.reduceToNat]
  (refine ⟨by (trivial), hK _ ?_⟩)
  clear hK K
  refine AWP.cond rfl (fun hb => ?_) (fun hb => ?_)
  · (simp only [hb, cond_true] at hR)
    refine AWP.seq ?_
    refine AWP.regS G_ok impl_stockCode_DD hc (by kernel_rfl) (fun K hK => ?_); simp only [ea, gv, sv, D_impl_isDay, D_impl_ValidStore, D_impl_Store_spareOf, reduceCtorEq, reduceIte, Nat.reduceBEq, Nat.reduceAdd, Nat.reduceEqDiff, Nat.reduceLT, Nat.reduceLeDiff, Nat.reduceMul, Nat.reduceSub, BEq.rfl, beq_self_eq_true, Int.reduceToNat]
    (refine hK _ ?_)
    clear hK K
    refine AWP.ret ?_
    subst hR
    (simp only [en, si, ea, gv, sv, hk, reduceCtorEq, reduceIte, Nat.reduceBEq, Nat.reduceAdd, Nat.reduceEqDiff, Nat.reduceLT, Nat.reduceLeDiff, Nat.reduceMul, Nat.reduceSub, BEq.rfl, beq_self_eq_true, Int.reduceToNat]; done)
  · (simp only [hb, cond_false] at hR)
    refine AWP.skip ?_
    refine AWP.seq ?_
    refine AWP.seq ?_
    refine AWP.regS G_ok impl_stockCode_DD hc (by kernel_rfl) (fun K hK => ?_); simp only [ea, gv, sv, D_impl_isDay, D_impl_ValidStore, D_impl_Store_spareOf, reduceCtorEq, reduceIte, Nat.reduceBEq, Nat.reduceAdd, Nat.reduceEqDiff, Nat.reduceLT, Nat.reduceLeDiff, Nat.reduceMul, Nat.reduceSub, BEq.rfl, beq_self_eq_true, Int.reduceToNat]
    (refine hK _ ?_)
    clear hK K
    refine AWP.cond rfl (fun hb => ?_) (fun hb => ?_)
    · (simp only [hb, cond_true] at hR)
      refine AWP.seq ?_
      refine AWP.regS G_ok impl_stockCode_DD hc (by kernel_rfl) (fun K hK => ?_); simp only [ea, gv, sv, D_impl_isDay, D_impl_ValidStore, D_impl_Store_spareOf, reduceCtorEq, reduceIte, Nat.reduceBEq, Nat.reduceAdd, Nat.reduceEqDiff, Nat.reduceLT, Nat.reduceLeDiff, Nat.reduceMul, Nat.reduceSub, BEq.rfl, beq_self_eq_true, Int.reduceToNat]
      (refine hK _ ?_)
      clear hK K
      refine AWP.ret ?_
      subst hR
      (simp only [en, si, ea, gv, sv, hk, reduceCtorEq, reduceIte, Nat.reduceBEq, Nat.reduceAdd, Nat.reduceEqDiff, Nat.reduceLT, Nat.reduceLeDiff, Nat.reduceMul, Nat.reduceSub, BEq.rfl, beq_self_eq_true, Int.reduceToNat]; done)
    · (simp only [hb, cond_false] at hR)
      refine AWP.skip ?_
      refine AWP.seq ?_
      refine AWP.regS G_ok impl_stockCode_DD hc (by kernel_rfl) (fun K hK => ?_); simp only [ea, gv, sv, D_impl_isDay, D_impl_ValidStore, D_impl_Store_spareOf, reduceCtorEq, reduceIte, Nat.reduceBEq, Nat.reduceAdd, Nat.reduceEqDiff, Nat.reduceLT, Nat.reduceLeDiff, Nat.reduceMul, Nat.reduceSub, BEq.rfl, beq_self_eq_true, Int.reduceToNat]
      (refine hK _ ?_)
      clear hK K
      refine AWP.seq ?_
      refine AWP.seq ?_
      refine AWP.regS G_ok impl_stockCode_DD hc (by kernel_rfl) (fun K hK => ?_); simp only [ea, gv, sv, D_impl_isDay, D_impl_ValidStore, D_impl_Store_spareOf, reduceCtorEq, reduceIte, Nat.reduceBEq, Nat.reduceAdd, Nat.reduceEqDiff, Nat.reduceLT, Nat.reduceLeDiff, Nat.reduceMul, Nat.reduceSub, BEq.rfl, beq_self_eq_true, Int.reduceToNat]
      (refine hK _ ?_)
      clear hK K
      refine AWP.cond rfl (fun hb => ?_) (fun hb => ?_)
      · (simp only [hb, cond_true] at hR)
        refine AWP.seq ?_
        refine AWP.regS G_ok impl_stockCode_DD hc (by kernel_rfl) (fun K hK => ?_); simp only [ea, gv, sv, D_impl_isDay, D_impl_ValidStore, D_impl_Store_spareOf, reduceCtorEq, reduceIte, Nat.reduceBEq, Nat.reduceAdd, Nat.reduceEqDiff, Nat.reduceLT, Nat.reduceLeDiff, Nat.reduceMul, Nat.reduceSub, BEq.rfl, beq_self_eq_true, Int.reduceToNat]
        (refine hK _ ?_)
        clear hK K
        refine AWP.ret ?_
        subst hR
        (simp only [en, si, ea, gv, sv, hk, reduceCtorEq, reduceIte, Nat.reduceBEq, Nat.reduceAdd, Nat.reduceEqDiff, Nat.reduceLT, Nat.reduceLeDiff, Nat.reduceMul, Nat.reduceSub, BEq.rfl, beq_self_eq_true, Int.reduceToNat]; done)
      · (simp only [hb, cond_false] at hR)
        refine AWP.skip ?_
        refine AWP.seq ?_
        refine AWP.regS G_ok impl_stockCode_DD hc (by kernel_rfl) (fun K hK => ?_); simp only [ea, gv, sv, D_impl_isDay, D_impl_ValidStore, D_impl_Store_spareOf, reduceCtorEq, reduceIte, Nat.reduceBEq, Nat.reduceAdd, Nat.reduceEqDiff, Nat.reduceLT, Nat.reduceLeDiff, Nat.reduceMul, Nat.reduceSub, BEq.rfl, beq_self_eq_true, Int.reduceToNat]
        (refine hK _ ?_)
        clear hK K
        refine AWP.ret ?_
        subst hR
        (simp only [en, si, ea, gv, sv, hk, reduceCtorEq, reduceIte, Nat.reduceBEq, Nat.reduceAdd, Nat.reduceEqDiff, Nat.reduceLT, Nat.reduceLeDiff, Nat.reduceMul, Nat.reduceSub, BEq.rfl, beq_self_eq_true, Int.reduceToNat]; done)
def D_impl_stockCode : DF
  | [x0, x1, x2] => some (.tup [.int .i64 ((impl_stockCode (rdG dStore x0) (rdS x1) (rdI x2)).1), .int .i64 ((impl_stockCode (rdG dStore x0) (rdS x1) (rdI x2)).2)], false, [wG eStore dStore x0, wS x1, wI .i64 x2, bdStore (rdG dStore x0), (rdS x1).length < 1099511627776])
  | _ => none
theorem D_impl_stockCode_ok : OkD Try.prog 87 D_impl_stockCode := by
  intro xs r z ob h ho
  unfold D_impl_stockCode at h
  split at h
  · simp only [Option.some.injEq, Prod.mk.injEq] at h
    obtain ⟨rfl, rfl, rfl⟩ := h
    obtain ⟨h0, h1, h2, hb0, hb1, _⟩ := ho
    exact Den.sim (impl_stockCode_den _ _ _ hb0 hb1) (simOL_cons (wG_sim h0).1 <| simOL_cons (wS_sim h1).1 <| simOL_cons (wI_sim h2).1 <| trivial) (noIdL_cons (wG_sim h0).2 <| noIdL_cons (wS_sim h1).2 <| noIdL_cons (wI_sim h2).2 <| rfl) rfl
  · cases h
end Go.Ab

namespace Go.Ab
open Go Go.Proofs
theorem slices_Min_int64_DD : DOk Try.prog (DD []) := DD_nil _
def slices_Min_int64_b1 (a0 : (List Int)) (i1 : Nat) (s1 : Int) : Except (Int) (Int) :=
  .ok (if (a0.getD i1 default) < s1 then (a0.getD i1 default) else s1)
def slices_Min_int64 (a0 : (List Int)) : Int :=
  (match loopR (slices_Min_int64_b1 a0) (a0.length - 1) 1 (a0.getD 0 default) with | .error e => e | .ok s1 => s1)
theorem slices_Min_int64_den (a0 : (List Int)) (hp0 : 1 ≤ a0.length) : Den Try.prog 89 [encL 1 eIi64 a0] (.int .i64 (slices_Min_int64 a0)) := by
  generalize hR : slices_Min_int64 a0 = r
  unfold slices_Min_int64 at hR
  refine den_intro G_ok Try.func89 (by kernel_rfl) rfl Try.ntmps89 (by rw [Try.results89]) (by simp) rfl ?_
  intro c hL hc hk
  obtain ⟨hL0, _⟩ := hL
  have hw0 : a0.length < 9223372036854775808 := Nat.lt_succ_of_le (lens_encL hL0).1
  clear hL0
  simp only [pars, Nat.zero_add]
  refine AWP.seq ?_
  refine AWP.regS G_ok slices_Min_int64_DD hc (by kernel_rfl) (fun K hK => ?_); simp only [ea, gv, sv, reduceCtorEq, reduceIte, Nat.reduceBEq, Nat.reduceAdd, Nat.reduceEqDiff, Nat.reduceLT, Nat.reduceLeDiff, Nat.reduceMul, Nat.reduceSub, BEq.rfl, beq_self_eq_true, Int.reduceToNat]
  (refine hK _ ?_)
  clear hK K
  refine AWP.seq ?_
  refine AWP.seq ?_
  refine AWP.regS G_ok slices_Min_int64_DD hc (by kernel_rfl) (fun K hK => ?_); simp only [ea, gv, sv, reduceCtorEq, reduceIte, Nat.reduceBEq, Nat.reduceAdd, Nat.reduceEqDiff, Nat.reduceLT, Nat.reduceLeDiff, Nat.reduceMul, Nat.reduceSub, BEq.rfl, beq_self_eq_true, Int.reduceToNat]
  (refine hK _ ?_)
  clear hK K
  refine AWP.cond rfl (fun hb => ?_) (fun hb => ?_)
  · exfalso; have hb := of_decide_eq_true hb; omega
  · refine AWP.skip ?_
    refine AWP.seq ?_
    refine AWP.regS G_ok slices_Min_int64_DD hc (by kernel_rfl) (fun K hK => ?_); simp only [ea, gv, sv, reduceCtorEq, reduceIte, Nat.reduceBEq, Nat.reduceAdd, Nat.reduceEqDiff, Nat.reduceLT, Nat.reduceLeDiff, Nat.reduceMul, Nat.reduceSub, BEq.rfl, beq_self_eq_true, Int.reduceToNat]
    (refine ⟨by (omega), hK _ ?_⟩)
    clear hK K
    refine AWP.seq ?_
    refine AWP.seq ?_
    refine AWP.regS G_ok slices_Min_int64_DD hc (by kernel_rfl) (fun K hK => ?_); simp only [ea, gv, sv, reduceCtorEq, reduceIte, Nat.reduceBEq, Nat.reduceAdd, Nat.reduceEqDiff, Nat.reduceLT, Nat.reduceLeDiff, Nat.reduceMul, Nat.reduceSub, BEq.rfl, beq_self_eq_true, Int.reduceToNat]
    (refine hK _ ?_)
    clear hK K
    refine AWP.block ?_
    generalize hz1 : loopR (slices_Min_int64_b1 a0) (a0.length - 1) 1 (a0.getD 0 default) = z1 at hR
    refine AWP.range (slices_Min_int64_b1 a0) (fun i1 s1 => ⟨[(0, encL 1 eIi64 a0), (3, .int .i64 s1), (4, .int .i64 (i1 : Int))], []⟩) (fun i1 s1 => 1 ≤ i1) (a0.length) 1 (a0.getD 0 default) [] hz1 (by (trivial)) (by (trivial)) (by (simp only [si, ea, gv, sv, hk, reduceCtorEq, reduceIte, Nat.reduceBEq, Nat.reduceAdd, Nat.reduceEqDiff, Nat.reduceLT, Nat.reduceLeDiff, Nat.reduceMul, Nat.reduceSub, BEq.rfl, beq_self_eq_true, Int.reduceToNat]; trivial)) ?_
    clear hz1
    intro i1 s1 hi1 hW1 hz1
    refine AWP.seq ?_
    refine AWP.seq ?_
    refine AWP.regS G_ok slices_Min_int64_DD hc (by kernel_rfl) (fun K hK => ?_); simp only [ea, gv, sv, reduceCtorEq, reduceIte, Nat.reduceBEq, Nat.reduceAdd, Nat.reduceEqDiff, Nat.reduceLT, Nat.reduceLeDiff, Nat.reduceMul, Nat.reduceSub, BEq.rfl, beq_self_eq_true, Int.reduceToNat]
    (refine hK _ ?_)
    clear hK K
    refine AWP.cond rfl (fun hb => ?_) (fun hb => ?_)
    · have hlt1 : i1 < a0.length := by ((simp only [ob, ln, bdv, sv] at *; omega))
      rw [loopR_lt hlt1] at hz1; simp only [slices_Min_int64_b1] at hz1
      refine AWP.skip ?_
      refine AWP.seq ?_
      refine AWP.block ?_
      refine AWP.regS G_ok slices_Min_int64_DD hc (by kernel_rfl) (fun K hK => ?_); simp only [ea, gv, sv, reduceCtorEq, reduceIte, Nat.reduceBEq, Nat.reduceAdd, Nat.reduceEqDiff, Nat.reduceLT, Nat.reduceLeDiff, Nat.reduceMul, Nat.reduceSub, BEq.rfl, beq_self_eq_true, Int.reduceToNat]
      (refine ⟨by (omega), hK _ ?_⟩)
      clear hK K
      refine AWP.regS G_ok slices_Min_int64_DD hc (by kernel_rfl) (fun K hK => ?_); simp only [ea, gv, sv, reduceCtorEq, reduceIte, Nat.reduceBEq, Nat.reduceAdd, Nat.reduceEqDiff, Nat.reduceLT, Nat.reduceLeDiff, Nat.reduceMul, Nat.reduceSub, BEq.rfl, beq_self_eq_true, Int.reduceToNat]
      (refine hK _ ?_)
      clear hK K
      exact ⟨_, [], hlt1, by ((and_intros <;> simp only [ob, ln] at * <;> omega)), hz1, by (simp only [si, ea, gv, sv, hk, reduceCtorEq, reduceIte, Nat.reduceBEq, Nat.reduceAdd, Nat.reduceEqDiff, Nat.reduceLT, Nat.reduceLeDiff, Nat.reduceMul, Nat.reduceSub, BEq.rfl, beq_self_eq_true, Int.reduceToNat]; (and_intros <;> first | trivial | (rw [IntKind.wrap_i64]; omega)))⟩
    · obtain rfl : i1 = a0.length := by ((simp only [ob, ln, bdv, sv] at *; omega))
      rw [loopR_ge (Nat.le_refl _)] at hz1; subst hz1; dsimp only at hR
      refine AWP.exit ?_; refine exitTo_here ?_
      refine AWP.seq ?_
      refine AWP.regS G_ok slices_Min_int64_DD hc (by kernel_rfl) (fun K hK => ?_); simp only [ea, gv, sv, reduceCtorEq, reduceIte, Nat.reduceBEq, Nat.reduceAdd, Nat.reduceEqDiff, Nat.reduceLT, Nat.reduceLeDiff, Nat.reduceMul, Nat.reduceSub, BEq.rfl, beq_self_eq_true, Int.reduceToNat]
      (refine hK _ ?_)
      clear hK K
      refine AWP.ret ?_
      subst hR
      (simp only [en, si, ea, gv, sv, hk, reduceCtorEq, reduceIte, Nat.reduceBEq, Nat.reduceAdd, Nat.reduceEqDiff, Nat.reduceLT, Nat.reduceLeDiff, Nat.reduceMul, Nat.reduceSub, BEq.rfl, beq_self_eq_true, Int.reduceToNat]; done)
def D_slices_Min_int64 : DF
  | [x0] => some (.int .i64 (slices_Min_int64 (rdL dIi64 x0)), false, [wL 1 eIi64 dIi64 x0, 1 ≤ (rdL dIi64 x0).length])
  | _ => none
theorem D_slices_Min_int64_ok : OkD Try.prog 89 D_slices_Min_int64 := by
  intro xs r z ob h ho
  unfold D_slices_Min_int64 at h
  split at h
  · simp only [Option.some.injEq, Prod.mk.injEq] at h
    obtain ⟨rfl, rfl, rfl⟩ := h
    obtain ⟨h0, hp0, _⟩ := ho
    exact Den.sim (slices_Min_int64_den _ hp0) (simOL_cons (wL_sim h0).1 <| trivial) (noIdL_cons (wL_sim h0).2 <| rfl) rfl
  · cases h
end Go.Ab

namespace Go.Ab
open Go Go.Proofs
theorem slices_Max_int64_DD : DOk Try.prog (DD []) := DD_nil _
def slices_Max_int64_b1 (a0 : (List Int)) (i1 : Nat) (s1 : Int) : Except (Int) (Int) :=
  .ok (if s1 < (a0.getD i1 default) then (a0.getD i1 default) else s1)
def slices_Max_int64 (a0 : (List Int)) : Int :=
  (match loopR (slices_Max_int64_b1 a0) (a0.length - 1) 1 (a0.getD 0 default) with | .error e => e | .ok s1 => s1)
theorem slices_Max_int64_den (a0 : (List Int)) (hp0 : 1 ≤ a0.length) : Den Try.prog 91 [encL 1 eIi64 a0] (.int .i64 (slices_Max_int64 a0)) := by
  generalize hR : slices_Max_int64 a0 = r
  unfold slices_Max_int64 at hR
  refine den_intro G_ok Try.func91 (by kernel_rfl) rfl Try.ntmps91 (by rw [Try.results91]) (by simp) rfl ?_
  intro c hL hc hk
  obtain ⟨hL0, _⟩ := hL
  have hw0 : a0.length < 9223372036854775808 := Nat.lt_succ_of_le (lens_encL hL0).1
  clear hL0
  simp only [pars, Nat.zero_add]
  refine AWP.seq ?_
  refine AWP.regS G_ok slices_Max_int64_DD hc (by kernel_rfl) (fun K hK => ?_); simp only [ea, gv, sv, reduceCtorEq, reduceIte, Nat.reduceBEq, Nat.reduceAdd, Nat.reduceEqDiff, Nat.reduceLT, Nat.reduceLeDiff, Nat.reduceMul, Nat.reduceSub, BEq.rfl, beq_self_eq_true, Int.reduceToNat]
  (refine hK _ ?_)
  clear hK K
  refine AWP.seq ?_
  refine AWP.seq ?_
  refine AWP.regS G_ok slices_Max_int64_DD hc (by kernel_rfl) (fun K hK => ?_); simp only [ea, gv, sv, reduceCtorEq, reduceIte, Nat.reduceBEq, Nat.reduceAdd, Nat.reduceEqDiff, Nat.reduceLT, Nat.reduceLeDiff, Nat.reduceMul, Nat.reduceSub, BEq.rfl, beq_self_eq_true, Int.reduceToNat]
  (refine hK _ ?_)
  clear hK K
  refine AWP.cond rfl (fun hb => ?_) (fun hb => ?_)
  · exfalso; have hb := of_decide_eq_true hb; omega
  · refine AWP.skip ?_
    refine AWP.seq ?_
    refine AWP.regS G_ok slices_Max_int64_DD hc (by kernel_rfl) (fun K hK => ?_); simp only [ea, gv, sv, reduceCtorEq, reduceIte, Nat.reduceBEq, Nat.reduceAdd, Nat.reduceEqDiff, Nat.reduceLT, Nat.reduceLeDiff, Nat.reduceMul, Nat.reduceSub, BEq.rfl, beq_self_eq_true, Int.reduceToNat]
    (refine ⟨by (omega), hK _ ?_⟩)
    clear hK K
    refine AWP.seq ?_
    refine AWP.seq ?_
    refine AWP.regS G_ok slices_Max_int64_DD hc (by kernel_rfl) (fun K hK => ?_); simp only [ea, gv, sv, reduceCtorEq, reduceIte, Nat.reduceBEq, Nat.reduceAdd, Nat.reduceEqDiff, Nat.reduceLT, Nat.reduceLeDiff, Nat.reduceMul, Nat.reduceSub, BEq.rfl, beq_self_eq_true, Int.reduceToNat]
    (refine hK _ ?_)
    clear hK K
    refine AWP.block ?_
    generalize hz1 : loopR (slices_Max_int64_b1 a0) (a0.length - 1) 1 (a0.getD 0 default) = z1 at hR
    refine AWP.range (slices_Max_int64_b1 a0) (fun i1 s1 => ⟨[(0, encL 1 eIi64 a0), (3, .int .i64 s1), (4, .int .i64 (i1 : Int))], []⟩) (fun i1 s1 => 1 ≤ i1) (a0.length) 1 (a0.getD 0 default) [] hz1 (by (trivial)) (by (trivial)) (by (simp only [si, ea, gv, sv, hk, reduceCtorEq, reduceIte, Nat.reduceBEq, Nat.reduceAdd, Nat.reduceEqDiff, Nat.reduceLT, Nat.reduceLeDiff, Nat.reduceMul, Nat.reduceSub, BEq.rfl, beq_self_eq_true, Int.reduceToNat]; trivial)) ?_
    clear hz1
    intro i1 s1 hi1 hW1 hz1
    refine AWP.seq ?_
    refine AWP.seq ?_
    refine AWP.regS G_ok slices_Max_int64_DD hc (by kernel_rfl) (fun K hK => ?_); simp only [ea, gv, sv, reduceCtorEq, reduceIte, Nat.reduceBEq, Nat.reduceAdd, Nat.reduceEqDiff, Nat.reduceLT, Nat.reduceLeDiff, Nat.reduceMul, Nat.reduceSub, BEq.rfl, beq_self_eq_true, Int.reduceToNat]
    (refine hK _ ?_)
    clear hK K
    refine AWP.cond rfl (fun hb => ?_) (fun hb => ?_)
    · have hlt1 : i1 < a0.length := by ((simp only [ob, ln, bdv, sv] at *; omega))
      rw [loopR_lt hlt1] at hz1; simp only [slices_Max_int64_b1] at hz1
      refine AWP.skip ?_
      refine AWP.seq ?_
      refine AWP.block ?_
      refine AWP.regS G_ok slices_Max_int64_DD hc (by kernel_rfl) (fun K hK => ?_); simp only [ea, gv, sv, reduceCtorEq, reduceIte, Nat.reduceBEq, Nat.reduceAdd, Nat.reduceEqDiff, Nat.reduceLT, Nat.reduceLeDiff, Nat.reduceMul, Nat.reduceSub, BEq.rfl, beq_self_eq_true, Int.reduceToNat]
      (refine ⟨by (omega), hK _ ?_⟩)
      clear hK K
      refine AWP.regS G_ok slices_Max_int64_DD hc (by kernel_rfl) (fun K hK => ?_); simp only [ea, gv, sv, reduceCtorEq, reduceIte, Nat.reduceBEq, Nat.reduceAdd, Nat.reduceEqDiff, Nat.reduceLT, Nat.reduceLeDiff, Nat.reduceMul, Nat.reduceSub, BEq.rfl, beq_self_eq_true, Int.reduceToNat]
      (refine hK _ ?_)
      clear hK K
      exact ⟨_, [], hlt1, by ((and_intros <;> simp only [ob, ln] at * <;> omega)), hz1, by (simp only [si, ea, gv, sv, hk, reduceCtorEq, reduceIte, Nat.reduceBEq, Nat.reduceAdd, Nat.reduceEqDiff, Nat.reduceLT, Nat.reduceLeDiff, Nat.reduceMul, Nat.reduceSub, BEq.rfl, beq_self_eq_true, Int.reduceToNat]; (and_intros <;> first | trivial | (rw [IntKind.wrap_i64]; omega)))⟩
    · obtain rfl : i1 = a0.length := by ((simp only [ob, ln, bdv, sv] at *; omega))
      rw [loopR_ge (Nat.le_refl _)] at hz1; subst hz1; dsimp only at hR
      refine AWP.exit ?_; refine exitTo_here ?_
      refine AWP.seq ?_
      refine AWP.regS G_ok slices_Max_int64_DD hc (by kernel_rfl) (fun K hK => ?_); simp only [ea, gv, sv, reduceCtorEq, reduceIte, Nat.reduceBEq, Nat.reduceAdd, Nat.reduceEqDiff, Nat.reduceLT, Nat.reduceLeDiff, Nat.reduceMul, Nat.reduceSub, BEq.rfl, beq_self_eq_true, Int.reduceToNat]
      (refine hK _ ?_)
      clear hK K
      refine AWP.ret ?_
      subst hR
      (simp only [en, si, ea, gv, sv, hk, reduceCtorEq, reduceIte, Nat.reduceBEq, Nat.reduceAdd, Nat.reduceEqDiff, Nat.reduceLT, Nat.reduceLeDiff, Nat.reduceMul, Nat.reduceSub, BEq.rfl, beq_self_eq_true, Int.reduceToNat]; done)
def D_slices_Max_int64 : DF
  | [x0] => some (.int .i64 (slices_Max_int64 (rdL dIi64 x0)), false, [wL 1 eIi64 dIi64 x0, 1 ≤ (rdL dIi64 x0).length])
  | _ => none
theorem D_slices_Max_int64_ok : OkD Try.prog 91 D_slices_Max_int64 := by
  intro xs r z ob h ho
  unfold D_slices_Max_int64 at h
  split at h
  · simp only [Option.some.injEq, Prod.mk.injEq] at h
    obtain ⟨rfl, rfl, rfl⟩ := h
    obtain ⟨h0, hp0, _⟩ := ho
    exact Den.sim (slices_Max_int64_den _ hp0) (simOL_cons (wL_sim h0).1 <| trivial) (noIdL_cons (wL_sim h0).2 <| rfl) rfl
  · cases h
end Go.Ab

namespace Go.Ab
open Go Go.Proofs
theorem stockCode_eq (a : Store) (k : List UInt8) (d : Int) (h : bwStore a) : (impl_stockCode a k d).2 = spec_l29Ask a k d ∧ (spec_l29Ask a k d = 0 → (impl_stockCode a k d).1 = spec_l29Find a k ∧ OkS a) := by
  unfold impl_stockCode spec_l29Ask
  rw [validStore_eq a h]
  cases h1 : spec_l29Ok a with
  | false => simp
  | true =>
    have hok := (specOk_iff a).1 h1
    obtain ⟨f1, f2⟩ := found_eq a k (And.left (And.left h)) hok.s2
    have hd : impl_isDay d = spec_l03Day d := rfl
    rw [hd]
    cases h2 : spec_l03Day d with
    | false => simp
    | true =>
      rw [f1]
      by_cases hf : 0 ≤ spec_l29Find a k
      · have hn : ¬ spec_l29Find a k < 0 := by omega
        simp only [hf, hn, decide_true, decide_false, Bool.not_true, cond_false, true_and]
        exact fun _ => ⟨f2 hf, hok⟩
      · have hn : spec_l29Find a k < 0 := by omega
        simp [hf, hn]
def st1 (k : List UInt8) (d : Int) : List Entry → Int → Int
  | [], s => s
  | e :: t, s => bif (e.Item == k) && decide (e.Day ≤ d) then st1 k d t (IntKind.wrap .i64 (s + e.Amount)) else st1 k d t s
def st2 (k : List UInt8) (d : Int) : List Entry → Int × Int × Int → Int × Int × Int
  | [], s => s
  | e :: t, s => bif (e.Item == k) && decide (d < e.Day) then st2 k d t (IntKind.wrap .i64 (s.1 + e.Amount), spec_l00Min s.2.1 (IntKind.wrap .i64 (s.1 + e.Amount)), spec_l00Max s.2.2 (IntKind.wrap .i64 (s.1 + e.Amount))) else st2 k d t s
theorem stock_eq (a : Store) (k : List UInt8) (d : Int) : spec_l29Stock a k d = (st1 k d a.Entries 0, (st2 k d a.Entries (st1 k d a.Entries 0, st1 k d a.Entries 0, st1 k d a.Entries 0)).2) := by
  unfold spec_l29Stock
  rw [loopR_list0 (b := spec_l29Stock_b1 a k d) (fun (e : Entry) (s : Int) => (bif ((e.Item == k) && decide (e.Day ≤ d)) then .ok (IntKind.wrap .i64 (s + e.Amount)) else .ok s)) a.Entries _ (fun j u _ => rfl)]
  have h1 : ∀ (es : List Entry) (s : Int), loopL (ρ := Int × Int × Int) (fun (e : Entry) (s : Int) => (bif ((e.Item == k) && decide (e.Day ≤ d)) then .ok (IntKind.wrap .i64 (s + e.Amount)) else .ok s)) es s = .ok (st1 k d es s) := by
    intro es
    induction es with
    | nil => intro s; rfl
    | cons e t ih =>
      intro s
      rw [loopL_cons]
      simp only [st1]
      cases (e.Item == k) && decide (e.Day ≤ d) with
      | true => exact ih _
      | false => exact ih _
  rw [h1]
  simp only
  rw [loopR_list0 (b := spec_l29Stock_b2 a k d _) (fun (e : Entry) (s : Int × Int × Int) => (bif ((e.Item == k) && decide (d < e.Day)) then .ok (IntKind.wrap .i64 (s.1 + e.Amount), (spec_l00Min s.2.1 (IntKind.wrap .i64 (s.1 + e.Amount))), (spec_l00Max s.2.2 (IntKind.wrap .i64 (s.1 + e.Amount)))) else .ok (s.1, s.2.1, s.2.2))) a.Entries _ (fun j u _ => rfl)]
  have h2 : ∀ (es : List Entry) (s : Int × Int × Int), loopL (ρ := Int × Int × Int) (fun (e : Entry) (s : Int × Int × Int) => (bif ((e.Item == k) && decide (d < e.Day)) then .ok (IntKind.wrap .i64 (s.1 + e.Amount), (spec_l00Min s.2.1 (IntKind.wrap .i64 (s.1 + e.Amount))), (spec_l00Max s.2.2 (IntKind.wrap .i64 (s.1 + e.Amount)))) else .ok (s.1, s.2.1, s.2.2))) es s = .ok (st2 k d es s) := by
    intro es
    induction es with
    | nil => intro s; rfl
    | cons e t ih =>
      intro s
      rw [loopL_cons]
      simp only [st2]
      cases (e.Item == k) && decide (d < e.Day) with
      | true => exact ih _
      | false => exact ih _
  rw [h2]
def gF (d : Int) (x : Int × Int) (s : List Int) : Except (List Int) (List Int) := bif decide (x.1 ≤ d) then .ok (s.set 0 x.2) else .ok (s ++ [x.2])
theorem days_le (a : Store) (hok : OkS a) : a.Entries.Pairwise (fun x y => x.Day ≤ y.Day) := by
  have h : ∀ (n i : Nat), i + n < a.Entries.length → (a.Entries.getD i default).Day ≤ (a.Entries.getD (i + n) default).Day := by
    intro n
    induction n with
    | zero => intro i _; exact Int.le_refl _
    | succ n ih =>
      intro i hi
      have h1 := ih i (by omega)
      have h2 := hok.e3 (i + (n + 1)) hi (by omega)
      rw [show i + (n + 1) - 1 = i + n by omega] at h2
      omega
  rw [List.pairwise_iff_getElem]
  intro i j hi hj hij
  have := h (j - i) i (by omega)
  rw [show i + (j - i) = j by omega, List.getD_eq_getElem?_getD, List.getD_eq_getElem?_getD, List.getElem?_eq_getElem hi, List.getElem?_eq_getElem hj, Option.getD_some, Option.getD_some] at this
  exact this
theorem lateE (k : List UInt8) (d : Int) : ∀ (es : List Entry) (acc : Int) (out : List Int) (lo hi : Int), (∀ e, e ∈ es → d < e.Day) →
    loopL (gF d) (ps k es acc) out = .ok (out ++ (ps k es acc).map Prod.snd) ∧ (∀ s, st1 k d es s = s) ∧
    (st2 k d es (acc, lo, hi)).2 = (((ps k es acc).map Prod.snd).foldl spec_l00Min lo, ((ps k es acc).map Prod.snd).foldl spec_l00Max hi)
  | [], acc, out, lo, hi, _ => by simp [ps, loopL, st1, st2]
  | e :: t, acc, out, lo, hi, h => by
    have he := h e (List.mem_cons_self ..)
    have ht := fun x hx => h x (List.mem_cons_of_mem _ hx)
    have hd1 : decide (e.Day ≤ d) = false := by simp; omega
    have hd2 : decide (d < e.Day) = true := by simp; omega
    simp only [ps, st1, st2, hd1, hd2, Bool.and_false, Bool.and_true, cond_false]
    cases hk : e.Item == k with
    | true =>
      simp only [cond_true, loopL_cons, gF, hd1, cond_false, List.map_cons, List.foldl_cons]
      obtain ⟨h1, h2, h3⟩ := lateE k d t (IntKind.wrap .i64 (acc + e.Amount)) (out ++ [IntKind.wrap .i64 (acc + e.Amount)]) (spec_l00Min lo (IntKind.wrap .i64 (acc + e.Amount))) (spec_l00Max hi (IntKind.wrap .i64 (acc + e.Amount))) ht
      refine ⟨?_, h2, h3⟩
      have : loopL (gF d) (ps k t (IntKind.wrap .i64 (acc + e.Amount))) (out ++ [IntKind.wrap .i64 (acc + e.Amount)]) = _ := h1
      rw [this]
      simp
    | false =>
      simp only [cond_false]
      exact lateE k d t acc out lo hi ht
theorem earlyE (k : List UInt8) (d : Int) : ∀ (es : List Entry) (acc : Int), es.Pairwise (fun x y => x.Day ≤ y.Day) →
    ∃ L, loopL (gF d) (ps k es acc) [acc] = .ok (st1 k d es acc :: L) ∧ (st2 k d es (st1 k d es acc, st1 k d es acc, st1 k d es acc)).2 = (L.foldl spec_l00Min (st1 k d es acc), L.foldl spec_l00Max (st1 k d es acc))
  | [], acc, _ => ⟨[], by simp [ps, loopL, st1, st2]⟩
  | e :: t, acc, h => by
    rw [List.pairwise_cons] at h
    by_cases hd : e.Day ≤ d
    · have hd1 : decide (e.Day ≤ d) = true := by simpa using hd
      have hd2 : decide (d < e.Day) = false := by simp; omega
      simp only [ps, st1, st2, hd1, hd2, Bool.and_false, Bool.and_true, cond_false]
      cases hk : e.Item == k with
      | true =>
        simp only [cond_true, loopL_cons]
        exact earlyE k d t (IntKind.wrap .i64 (acc + e.Amount)) h.2 |>.imp fun L hL => ⟨by
          have : gF d (e.Day, IntKind.wrap .i64 (acc + e.Amount)) [acc] = .ok [IntKind.wrap .i64 (acc + e.Amount)] := by simp [gF, hd]
          rw [this]
          exact hL.1, hL.2⟩
      | false =>
        simp only [cond_false]
        exact earlyE k d t acc h.2
    · have hl : ∀ x, x ∈ e :: t → d < x.Day := by
        intro x hx
        rcases List.mem_cons.1 hx with rfl | hx
        · omega
        · have := h.1 x hx; omega
      obtain ⟨h1, h2, h3⟩ := lateE k d (e :: t) acc [acc] acc acc hl
      rw [h2 acc]
      exact ⟨_, h1, h3⟩
theorem fromDay_eq (a : Store) (k : List UInt8) (d : Int) (hok : OkS a) : ∃ L, impl_Store_fromDay a k d = (spec_l29Stock a k d).1 :: L ∧ (spec_l29Stock a k d).2 = (L.foldl spec_l00Min (spec_l29Stock a k d).1, L.foldl spec_l00Max (spec_l29Stock a k d).1) := by
  rw [stock_eq]
  obtain ⟨L, h1, h2⟩ := earlyE k d a.Entries 0 (days_le a hok)
  refine ⟨L, ?_, h2⟩
  unfold impl_Store_fromDay
  have hlen : (impl_Store_sums a k).1.length = (ps k a.Entries 0).length := by rw [sums_eq]; simp
  rw [hlen, loopR_list0 (b := impl_Store_fromDay_b1 a k d) (gF d) (ps k a.Entries 0) _ (fun j u hj => by
    simp only [impl_Store_fromDay_b1, sums_eq, getD_map Prod.fst _ j hj, getD_map Prod.snd _ j hj]; rfl), h1]
theorem min_eq (x : Int) (L : List Int) : slices_Min_int64 (x :: L) = L.foldl spec_l00Min x := by
  unfold slices_Min_int64
  rw [loopR_list (b := slices_Min_int64_b1 (x :: L)) (fun y s => .ok (if y < s then y else s)) (x :: L) _ 1 _ (by simp; omega) (fun j u _ _ => rfl)]
  simp only [List.drop_succ_cons, List.drop_zero, List.getD_cons_zero]
  have : ∀ (L : List Int) (x : Int), loopL (ρ := Int) (fun y s => .ok (if y < s then y else s)) L x = .ok (L.foldl spec_l00Min x) := by
    intro L
    induction L with
    | nil => intro x; rfl
    | cons y t ih =>
      intro x
      rw [loopL_cons, List.foldl_cons]
      simp only
      rw [ih]
      congr 2
      unfold spec_l00Min
      by_cases h : x < y <;> by_cases h' : y < x <;> simp [h, h'] <;> omega
  rw [this]
theorem max_eq (x : Int) (L : List Int) : slices_Max_int64 (x :: L) = L.foldl spec_l00Max x := by
  unfold slices_Max_int64
  rw [loopR_list (b := slices_Max_int64_b1 (x :: L)) (fun y s => .ok (if s < y then y else s)) (x :: L) _ 1 _ (by simp; omega) (fun j u _ _ => rfl)]
  simp only [List.drop_succ_cons, List.drop_zero, List.getD_cons_zero]
  have : ∀ (L : List Int) (x : Int), loopL (ρ := Int) (fun y s => .ok (if s < y then y else s)) L x = .ok (L.foldl spec_l00Max x) := by
    intro L
    induction L with
    | nil => intro x; rfl
    | cons y t ih =>
      intro x
      rw [loopL_cons, List.foldl_cons]
      simp only
      rw [ih]
      congr 2
      unfold spec_l00Max
      by_cases h : x < y <;> by_cases h' : y < x <;> simp [h, h'] <;> omega
  rw [this]
end Go.Ab

namespace Go.Ab
open Go Go.Proofs
theorem laws_markText_DD : DOk Try.prog (DD []) := DD_nil _
def laws_markText_b1 (a0 : Int) (s1 : Int × List UInt8) : Except (Sum ((List UInt8)) (Int × List UInt8)) (Int × List UInt8) :=
  (bif decide (0 < s1.1) then .ok (IntKind.wrap .i64 (s1.1.tdiv 10), [UInt8.ofNat (IntKind.wrap .u8 (IntKind.wrap .i64 (48 + (s1.1.tmod 10)))).toNat] ++ s1.2) else .error (.inr (s1.1, s1.2)))
def laws_markText (a0 : Int) : (List UInt8) :=
  (bif decide (a0 ≤ 0) then [109, 48] else (match loopW (laws_markText_b1 a0) (((a0).toNat) + 1) (a0, []) with | .error (.inl e) => e | .error (.inr s1) => [109] ++ s1.2 | .ok _ => default))
theorem laws_markText_den (a0 : Int) (hp0 : a0 ≤ 4611686018427387904) : Den Try.prog 82 [.int .i64 a0] (.str (laws_markText a0)) := by
  generalize hR : laws_markText a0 = r
  unfold laws_markText at hR
  refine den_intro G_ok Try.func82 (by kernel_rfl) rfl Try.ntmps82 (by rw [Try.results82]) (by simp) rfl ?_
  intro c hL hc hk
  clear hL
  simp only [pars, Nat.zero_add]
  refine AWP.seq ?_
  refine AWP.regS G_ok laws_markText_DD hc (by kernel_rfl) (fun K hK => ?_); simp only [ea, gv, sv, reduceCtorEq, reduceIte, Nat.reduceBEq, Nat.reduceAdd, Nat.reduceEqDiff, Nat.reduceLT, Nat.reduceLeDiff, Nat.reduceMul, Nat.reduceSub, BEq.rfl, beq_self_eq_true, Int.reduceToNat]
  (refine hK _ ?_)
  clear hK K
  refine AWP.seq ?_
  refine AWP.seq ?_
  refine AWP.regS G_ok laws_markText_DD hc (by kernel_rfl) (fun K hK => ?_); simp only [ea, gv, sv, reduceCtorEq, reduceIte, Nat.reduceBEq, Nat.reduceAdd, Nat.reduceEqDiff, Nat.reduceLT, Nat.reduceLeDiff, Nat.reduceMul, Nat.reduceSub, BEq.rfl, beq_self_eq_true, Int.reduceToNat]
  (refine hK _ ?_)
  clear hK K
  refine AWP.cond rfl (fun hb => ?_) (fun hb => ?_)
  · (simp only [hb, cond_true] at hR)
    refine AWP.seq ?_
    refine AWP.regS G_ok laws_markText_DD hc (by kernel_rfl) (fun K hK => ?_); simp only [ea, gv, sv, reduceCtorEq, reduceIte, Nat.reduceBEq, Nat.reduceAdd, Nat.reduceEqDiff, Nat.reduceLT, Nat.reduceLeDiff, Nat.reduceMul, Nat.reduceSub, BEq.rfl, beq_self_eq_true, Int.reduceToNat]
    (refine hK _ ?_)
    clear hK K
    refine AWP.ret ?_
    subst hR
    (simp only [en, si, ea, gv, sv, hk, reduceCtorEq, reduceIte, Nat.reduceBEq, Nat.reduceAdd, Nat.reduceEqDiff, Nat.reduceLT, Nat.reduceLeDiff, Nat.reduceMul, Nat.reduceSub, BEq.rfl, beq_self_eq_true, Int.reduceToNat]; done)
  · (simp only [hb, cond_false] at hR)
    refine AWP.skip ?_
    refine AWP.seq ?_
    refine AWP.regS G_ok laws_markText_DD hc (by kernel_rfl) (fun K hK => ?_); simp only [ea, gv, sv, reduceCtorEq, reduceIte, Nat.reduceBEq, Nat.reduceAdd, Nat.reduceEqDiff, Nat.reduceLT, Nat.reduceLeDiff, Nat.reduceMul, Nat.reduceSub, BEq.rfl, beq_self_eq_true, Int.reduceToNat]
    (refine hK _ ?_)
    clear hK K
    refine AWP.seq ?_
    refine AWP.block ?_
    generalize hz1 : loopW (laws_markText_b1 a0) (((a0).toNat) + 1) (a0, []) = z1 at hR
    refine AWP.whileW (laws_markText_b1 a0) (fun s1 => ⟨[(0, .int .i64 s1.1), (3, .str s1.2)], []⟩) (fun s1 => 0 ≤ s1.1 ∧ s1.1 ≤ a0 ∧ s1.2.length + (s1.1).toNat ≤ a0.toNat) (fun s1 => (s1.1).toNat) (((a0).toNat) + 1) (a0, []) [] hz1 (by omega) (by ((and_intros <;> simp only [ob, ln] at * <;> omega))) (by (simp only [si, ea, gv, sv, hk, reduceCtorEq, reduceIte, Nat.reduceBEq, Nat.reduceAdd, Nat.reduceEqDiff, Nat.reduceLT, Nat.reduceLeDiff, Nat.reduceMul, Nat.reduceSub, BEq.rfl, beq_self_eq_true, Int.reduceToNat]; trivial)) ?_
    clear hz1
    intro s1 k1 hW1 hm1 hz1
    simp only [laws_markText_b1] at hz1
    refine AWP.seq ?_
    refine AWP.seq ?_
    refine AWP.regS G_ok laws_markText_DD hc (by kernel_rfl) (fun K hK => ?_); simp only [ea, gv, sv, reduceCtorEq, reduceIte, Nat.reduceBEq, Nat.reduceAdd, Nat.reduceEqDiff, Nat.reduceLT, Nat.reduceLeDiff, Nat.reduceMul, Nat.reduceSub, BEq.rfl, beq_self_eq_true, Int.reduceToNat]
    (refine hK _ ?_)
    clear hK K
    refine AWP.cond rfl (fun hb => ?_) (fun hb => ?_)
    · (simp only [hb, cond_true] at hz1)
      refine AWP.skip ?_
      refine AWP.block ?_
      refine AWP.seq ?_
      refine AWP.regS G_ok laws_markText_DD hc (by kernel_rfl) (fun K hK => ?_); simp only [ea, gv, sv, reduceCtorEq, reduceIte, Nat.reduceBEq, Nat.reduceAdd, Nat.reduceEqDiff, Nat.reduceLT, Nat.reduceLeDiff, Nat.reduceMul, Nat.reduceSub, BEq.rfl, beq_self_eq_true, Int.reduceToNat]
      (refine ⟨by (omega), hK _ ?_⟩)
      clear hK K
      refine AWP.regS G_ok laws_markText_DD hc (by kernel_rfl) (fun K hK => ?_); simp only [ea, gv, sv, reduceCtorEq, reduceIte, Nat.reduceBEq, Nat.reduceAdd, Nat.reduceEqDiff, Nat.reduceLT, Nat.reduceLeDiff, Nat.reduceMul, Nat.reduceSub, BEq.rfl, beq_self_eq_true, Int.reduceToNat]
      (refine ⟨by (trivial), hK _ ?_⟩)
      clear hK K
      exact ⟨_, [], by (have h10 : s1.fst.tdiv 10 = s1.fst / 10 := Int.tdiv_eq_ediv_of_nonneg (by omega); simp only [ob, ln, h10] at *; omega), by (have h10 : s1.fst.tdiv 10 = s1.fst / 10 := Int.tdiv_eq_ediv_of_nonneg (by omega); simp only [ob, ln, h10] at *; omega), hz1, by (simp only [si, ea, gv, sv, hk, reduceCtorEq, reduceIte, Nat.reduceBEq, Nat.reduceAdd, Nat.reduceEqDiff, Nat.reduceLT, Nat.reduceLeDiff, Nat.reduceMul, Nat.reduceSub, BEq.rfl, beq_self_eq_true, Int.reduceToNat]; trivial)⟩
    · (simp only [hb, cond_false] at hz1)
      refine AWP.exit ?_
      refine exitTo_here ?_
      subst hz1; dsimp only at hR
      refine AWP.seq ?_
      refine AWP.regS G_ok laws_markText_DD hc (by kernel_rfl) (fun K hK => ?_); simp only [ea, gv, sv, reduceCtorEq, reduceIte, Nat.reduceBEq, Nat.reduceAdd, Nat.reduceEqDiff, Nat.reduceLT, Nat.reduceLeDiff, Nat.reduceMul, Nat.reduceSub, BEq.rfl, beq_self_eq_true, Int.reduceToNat]
      (refine ⟨by (omega), hK _ ?_⟩)
      clear hK K
      refine AWP.ret ?_
      subst hR
      (simp only [en, si, ea, gv, sv, hk, reduceCtorEq, reduceIte, Nat.reduceBEq, Nat.reduceAdd, Nat.reduceEqDiff, Nat.reduceLT, Nat.reduceLeDiff, Nat.reduceMul, Nat.reduceSub, BEq.rfl, beq_self_eq_true, Int.reduceToNat]; done)
def D_laws_markText : DF
  | [x0] => some (.str (laws_markText (rdI x0)), false, [wI .i64 x0, (rdI x0) ≤ 4611686018427387904])
  | _ => none
theorem D_laws_markText_ok : OkD Try.prog 82 D_laws_markText := by
  intro xs r z ob h ho
  unfold D_laws_markText at h
  split at h
  · simp only [Option.some.injEq, Prod.mk.injEq] at h
    obtain ⟨rfl, rfl, rfl⟩ := h
    obtain ⟨h0, hp0, _⟩ := ho
    exact Den.sim (laws_markText_den _ hp0) (simOL_cons (wI_sim h0).1 <| trivial) (noIdL_cons (wI_sim h0).2 <| rfl) rfl
  · cases h
end Go.Ab

namespace Go.Ab
open Go Go.Proofs
theorem laws_markEntryS_DD : DOk Try.prog (DD [(82, dP D_laws_markText)]) := DD_cons D_laws_markText_ok.e <| DD_nil _
def laws_markEntryS_b1 (a0 : (List Entry)) (a1 : Int) (i1 : Nat) (s1 : Int × List Entry) : Except (Int × (List Entry)) (Int × List Entry) :=
  .ok (IntKind.wrap .i64 ((IntKind.wrap .i64 ((IntKind.wrap .i64 (s1.1 + 1)) + 1)) + 1), s1.2.set i1 ({ Day := s1.1, Item := (laws_markText (IntKind.wrap .i64 (s1.1 + 1))), Amount := IntKind.wrap .i64 ((IntKind.wrap .i64 (s1.1 + 1)) + 1) : Entry }))
def laws_markEntryS (a0 : (List Entry)) (a1 : Int) : Int × (List Entry) :=
  (match loopR (laws_markEntryS_b1 a0 a1) (a0.length - 0) 0 (a1, a0) with | .error e => e | .ok s1 => (s1.1, s1.2))
theorem laws_markEntryS_den (a0 : (List Entry)) (a1 : Int) (hp0 : 0 ≤ a1) (hp1 : a1 ≤ 1152921504606846976) (hp2 : a0.length < 1099511627776) : DenM Try.prog 61 [ownL 66 3 eEntry a0, .int .i64 a1] (.int .i64 ((laws_markEntryS a0 a1).1)) [(ownL 66 3 eEntry ((laws_markEntryS a0 a1).2)), .any] := by
  generalize hR : laws_markEntryS a0 a1 = r
  unfold laws_markEntryS at hR
  refine den_introM (gb := [true, false]) G_ok Try.func61 (by kernel_rfl) rfl Try.ntmps61 (by rw [Try.results61]) (by simp) ?_
  intro c hL hc hk
  obtain ⟨hL0, hL1, _⟩ := hL
  have hw0 : a0.length < 9223372036854775808 := Nat.lt_succ_of_le (lens_ownL hL0).1
  have hw1 : ∀ v ∈ a0, bwEntry v := fun v hv => Entry_lens v ((lens_ownL hL0).2 v hv)
  clear hL0 hL1
  simp only [adEL, adE, adRL, adR, ownL, encL, sv, List.nil_append, List.append_nil, List.cons_append, List.length_cons, List.length_nil, pars, Nat.zero_add, Nat.reduceAdd] at hk ⊢
  refine AWP.seq ?_
  refine AWP.regS G_ok laws_markEntryS_DD hc (by kernel_rfl) (fun K hK => ?_); simp only [ea, gv, sv, D_laws_markText, reduceCtorEq, reduceIte, Nat.reduceBEq, Nat.reduceAdd, Nat.reduceEqDiff, Nat.reduceLT, Nat.reduceLeDiff, Nat.reduceMul, Nat.reduceSub, BEq.rfl, beq_self_eq_true, Int.reduceToNat]
  (refine hK _ ?_)
  clear hK K
  refine AWP.seq ?_
  refine AWP.seq ?_
  refine AWP.regS G_ok laws_markEntryS_DD hc (by kernel_rfl) (fun K hK => ?_); simp only [ea, gv, sv, D_laws_markText, reduceCtorEq, reduceIte, Nat.reduceBEq, Nat.reduceAdd, Nat.reduceEqDiff, Nat.reduceLT, Nat.reduceLeDiff, Nat.reduceMul, Nat.reduceSub, BEq.rfl, beq_self_eq_true, Int.reduceToNat]
  (refine hK _ ?_)
  clear hK K
  refine AWP.block ?_
  generalize hz1 : loopR (laws_markEntryS_b1 a0 a1) (a0.length - 0) 0 (a1, a0) = z1 at hR
  refine AWP.range (laws_markEntryS_b1 a0 a1) (fun i1 s1 => ⟨[(0, .ref 0 3 0 s1.2.length), (1, .int .i64 s1.1), (5, .int .i64 (i1 : Int))], [.arr 66 3 s1.2.length (fun j => eEntry (s1.2.getD j default))]⟩) (fun i1 s1 => s1.2.length = a0.length ∧ 0 ≤ s1.1 ∧ s1.1 ≤ a1 + 3 * i1) (a0.length) 0 (a1, a0) [0] hz1 (by (omega)) (by ((and_intros <;> simp only [ln] <;> omega))) (by (simp only [si, ea, gv, sv, hk, reduceCtorEq, reduceIte, Nat.reduceBEq, Nat.reduceAdd, Nat.reduceEqDiff, Nat.reduceLT, Nat.reduceLeDiff, Nat.reduceMul, Nat.reduceSub, BEq.rfl, beq_self_eq_true, Int.reduceToNat]; trivial)) ?_
  clear hz1
  intro i1 s1 hi1 hW1 hz1
  refine AWP.seq ?_
  refine AWP.seq ?_
  refine AWP.regS G_ok laws_markEntryS_DD hc (by kernel_rfl) (fun K hK => ?_); simp only [ea, gv, sv, D_laws_markText, reduceCtorEq, reduceIte, Nat.reduceBEq, Nat.reduceAdd, Nat.reduceEqDiff, Nat.reduceLT, Nat.reduceLeDiff, Nat.reduceMul, Nat.reduceSub, BEq.rfl, beq_self_eq_true, Int.reduceToNat]
  (refine hK _ ?_)
  clear hK K
  refine AWP.cond rfl (fun hb => ?_) (fun hb => ?_)
  · have hlt1 : i1 < a0.length := by ((simp only [ob, ln, bdv, sv] at *; omega))
    rw [loopR_lt hlt1] at hz1; simp only [laws_markEntryS_b1] at hz1
    refine AWP.skip ?_
    refine AWP.seq ?_
    refine AWP.block ?_
    refine AWP.seq ?_
    refine AWP.regS G_ok laws_markEntryS_DD hc (by kernel_rfl) (fun K hK => ?_); simp only [ea, gv, sv, D_laws_markText, reduceCtorEq, reduceIte, Nat.reduceBEq, Nat.reduceAdd, Nat.reduceEqDiff, Nat.reduceLT, Nat.reduceLeDiff, Nat.reduceMul, Nat.reduceSub, BEq.rfl, beq_self_eq_true, Int.reduceToNat]
    (refine ⟨by (omega), hK _ ?_⟩)
    clear hK K
    refine AWP.seq ?_
    refine AWP.regS G_ok laws_markEntryS_DD hc (by kernel_rfl) (fun K hK => ?_); simp only [ea, gv, sv, D_laws_markText, reduceCtorEq, reduceIte, Nat.reduceBEq, Nat.reduceAdd, Nat.reduceEqDiff, Nat.reduceLT, Nat.reduceLeDiff, Nat.reduceMul, Nat.reduceSub, BEq.rfl, beq_self_eq_true, Int.reduceToNat]
    (refine hK _ ?_)
    clear hK K
    refine AWP.seq ?_
    refine AWP.regS G_ok laws_markEntryS_DD hc (by kernel_rfl) (fun K hK => ?_); simp only [ea, gv, sv, D_laws_markText, reduceCtorEq, reduceIte, Nat.reduceBEq, Nat.reduceAdd, Nat.reduceEqDiff, Nat.reduceLT, Nat.reduceLeDiff, Nat.reduceMul, Nat.reduceSub, BEq.rfl, beq_self_eq_true, Int.reduceToNat]
    (refine ⟨by ((simp only [ob, ln, bdv, sv] at *; omega)), hK _ ?_⟩)
    clear hK K
    refine AWP.seq ?_
    refine AWP.regS G_ok laws_markEntryS_DD hc (by kernel_rfl) (fun K hK => ?_); simp only [ea, gv, sv, D_laws_markText, reduceCtorEq, reduceIte, Nat.reduceBEq, Nat.reduceAdd, Nat.reduceEqDiff, Nat.reduceLT, Nat.reduceLeDiff, Nat.reduceMul, Nat.reduceSub, BEq.rfl, beq_self_eq_true, Int.reduceToNat]
    (refine hK _ ?_)
    clear hK K
    refine AWP.seq ?_
    refine AWP.regS G_ok laws_markEntryS_DD hc (by kernel_rfl) (fun K hK => ?_); simp only [ea, gv, sv, D_laws_markText, reduceCtorEq, reduceIte, Nat.reduceBEq, Nat.reduceAdd, Nat.reduceEqDiff, Nat.reduceLT, Nat.reduceLeDiff, Nat.reduceMul, Nat.reduceSub, BEq.rfl, beq_self_eq_true, Int.reduceToNat]
    (refine ⟨by (omega), hK _ ?_⟩)
    clear hK K
    refine AWP.regS G_ok laws_markEntryS_DD hc (by kernel_rfl) (fun K hK => ?_); simp only [ea, gv, sv, D_laws_markText, reduceCtorEq, reduceIte, Nat.reduceBEq, Nat.reduceAdd, Nat.reduceEqDiff, Nat.reduceLT, Nat.reduceLeDiff, Nat.reduceMul, Nat.reduceSub, BEq.rfl, beq_self_eq_true, Int.reduceToNat]
    (refine hK _ ?_)
    clear hK K
    refine AWP.regS G_ok laws_markEntryS_DD hc (by kernel_rfl) (fun K hK => ?_); simp only [ea, gv, sv, D_laws_markText, reduceCtorEq, reduceIte, Nat.reduceBEq, Nat.reduceAdd, Nat.reduceEqDiff, Nat.reduceLT, Nat.reduceLeDiff, Nat.reduceMul, Nat.reduceSub, BEq.rfl, beq_self_eq_true, Int.reduceToNat]
    (refine hK _ ?_)
    clear hK K
    exact ⟨_, [0], hlt1, by ((and_intros <;> simp only [ob, ln] at * <;> omega)), hz1, by (simp only [si, ea, gv, sv, hk, reduceCtorEq, reduceIte, Nat.reduceBEq, Nat.reduceAdd, Nat.reduceEqDiff, Nat.reduceLT, Nat.reduceLeDiff, Nat.reduceMul, Nat.reduceSub, BEq.rfl, beq_self_eq_true, Int.reduceToNat]; (and_intros <;> first | trivial | (rw [IntKind.wrap_i64]; omega) | (simp only [ln]; done) | (intro j hj; simp only [pw, Bool.cond_eq_ite, Bool.and_eq_true, decide_eq_true_eq]; (try rw [subL_getD _ _ _ _ (by assumption)]); (try rw [clearL_getD _ _ _ _ (by omega)]); (repeat' split) <;> first | rfl | omega)))⟩
  · obtain rfl : i1 = a0.length := by ((simp only [ob, ln, bdv, sv] at *; omega))
    rw [loopR_ge (Nat.le_refl _)] at hz1; subst hz1; dsimp only at hR
    refine AWP.exit ?_; refine exitTo_here ?_
    refine AWP.seq ?_
    refine AWP.regS G_ok laws_markEntryS_DD hc (by kernel_rfl) (fun K hK => ?_); simp only [ea, gv, sv, D_laws_markText, reduceCtorEq, reduceIte, Nat.reduceBEq, Nat.reduceAdd, Nat.reduceEqDiff, Nat.reduceLT, Nat.reduceLeDiff, Nat.reduceMul, Nat.reduceSub, BEq.rfl, beq_self_eq_true, Int.reduceToNat]
    (refine hK _ ?_)
    clear hK K
    refine AWP.ret ?_
    subst hR
    (simp only [en, si, ea, gv, sv, hk, reduceCtorEq, reduceIte, Nat.reduceBEq, Nat.reduceAdd, Nat.reduceEqDiff, Nat.reduceLT, Nat.reduceLeDiff, Nat.reduceMul, Nat.reduceSub, BEq.rfl, beq_self_eq_true, Int.reduceToNat]; (and_intros <;> omega))
def D_laws_markEntryS : List AV → Option (AV × List AV × List Prop)
  | [x0, x1] => some (.int .i64 ((laws_markEntryS (rdL dEntry x0) (rdI x1)).1), [(ownL 66 3 eEntry ((laws_markEntryS (rdL dEntry x0) (rdI x1)).2)), .any], [wO 66 3 eEntry dEntry x0, wI .i64 x1, 0 ≤ (rdI x1), (rdI x1) ≤ 1152921504606846976, (rdL dEntry x0).length < 1099511627776])
  | _ => none
theorem D_laws_markEntryS_ok : OkM Try.prog 61 D_laws_markEntryS := by
  intro xs r outs ob h ho
  unfold D_laws_markEntryS at h
  split at h
  · simp only [Option.some.injEq, Prod.mk.injEq] at h
    obtain ⟨rfl, rfl, rfl⟩ := h
    obtain ⟨h0, h1, hp0, hp1, hp2, _⟩ := ho
    exact DenM.sim (laws_markEntryS_den _ _ hp0 hp1 hp2) (simOL_cons (wO_sim h0) <| simOL_cons (wI_sim h1).1 <| trivial)
  · cases h
end Go.Ab

namespace Go.Ab
open Go Go.Proofs
theorem laws_markSpareS_DD : DOk Try.prog (DD [(82, dP D_laws_markText)]) := DD_cons D_laws_markText_ok.e <| DD_nil _
def laws_markSpareS_b1 (a0 : (List Spare)) (a1 : Int) (i1 : Nat) (s1 : Int × List Spare) : Except (Int × (List Spare)) (Int × List Spare) :=
  .ok (IntKind.wrap .i64 ((IntKind.wrap .i64 ((IntKind.wrap .i64 (s1.1 + 1)) + 1)) + 1), s1.2.set i1 ({ Name := (laws_markText s1.1), Least := IntKind.wrap .i64 (s1.1 + 1), Most := IntKind.wrap .i64 ((IntKind.wrap .i64 (s1.1 + 1)) + 1) : Spare }))
def laws_markSpareS (a0 : (List Spare)) (a1 : Int) : Int × (List Spare) :=
  (match loopR (laws_markSpareS_b1 a0 a1) (a0.length - 0) 0 (a1, a0) with | .error e => e | .ok s1 => (s1.1, s1.2))
theorem laws_markSpareS_den (a0 : (List Spare)) (a1 : Int) (hp0 : 0 ≤ a1) (hp1 : a1 ≤ 1152921504606846976) (hp2 : a0.length < 1099511627776) : DenM Try.prog 98 [ownL 63 3 eSpare a0, .int .i64 a1] (.int .i64 ((laws_markSpareS a0 a1).1)) [(ownL 63 3 eSpare ((laws_markSpareS a0 a1).2)), .any] := by
  generalize hR : laws_markSpareS a0 a1 = r
  unfold laws_markSpareS at hR
  refine den_introM (gb := [true, false]) G_ok Try.func98 (by kernel_rfl) rfl Try.ntmps98 (by rw [Try.results98]) (by simp) ?_
  intro c hL hc hk
  obtain ⟨hL0, hL1, _⟩ := hL
  have hw0 : a0.length < 9223372036854775808 := Nat.lt_succ_of_le (lens_ownL hL0).1
  have hw1 : ∀ v ∈ a0, bwSpare v := fun v hv => Spare_lens v ((lens_ownL hL0).2 v hv)
  clear hL0 hL1
  simp only [adEL, adE, adRL, adR, ownL, encL, sv, List.nil_append, List.append_nil, List.cons_append, List.length_cons, List.length_nil, pars, Nat.zero_add, Nat.reduceAdd] at hk ⊢
  refine AWP.seq ?_
  refine AWP.regS G_ok laws_markSpareS_DD hc (by kernel_rfl) (fun K hK => ?_); simp only [ea, gv, sv, D_laws_markText, reduceCtorEq, reduceIte, Nat.reduceBEq, Nat.reduceAdd, Nat.reduceEqDiff, Nat.reduceLT, Nat.reduceLeDiff, Nat.reduceMul, Nat.reduceSub, BEq.rfl, beq_self_eq_true, Int.reduceToNat]
  (refine hK _ ?_)
  clear hK K
  refine AWP.seq ?_
  refine AWP.seq ?_
  refine AWP.regS G_ok laws_markSpareS_DD hc (by kernel_rfl) (fun K hK => ?_); simp only [ea, gv, sv, D_laws_markText, reduceCtorEq, reduceIte, Nat.reduceBEq, Nat.reduceAdd, Nat.reduceEqDiff, Nat.reduceLT, Nat.reduceLeDiff, Nat.reduceMul, Nat.reduceSub, BEq.rfl, beq_self_eq_true, Int.reduceToNat]
  (refine hK _ ?_)
  clear hK K
  refine AWP.block ?_
  generalize hz1 : loopR (laws_markSpareS_b1 a0 a1) (a0.length - 0) 0 (a1, a0) = z1 at hR
  refine AWP.range (laws_markSpareS_b1 a0 a1) (fun i1 s1 => ⟨[(0, .ref 0 3 0 s1.2.length), (1, .int .i64 s1.1), (5, .int .i64 (i1 : Int))], [.arr 63 3 s1.2.length (fun j => eSpare (s1.2.getD j default))]⟩) (fun i1 s1 => s1.2.length = a0.length ∧ 0 ≤ s1.1 ∧ s1.1 ≤ a1 + 3 * i1) (a0.length) 0 (a1, a0) [0] hz1 (by (omega)) (by ((and_intros <;> simp only [ln] <;> omega))) (by (simp only [si, ea, gv, sv, hk, reduceCtorEq, reduceIte, Nat.reduceBEq, Nat.reduceAdd, Nat.reduceEqDiff, Nat.reduceLT, Nat.reduceLeDiff, Nat.reduceMul, Nat.reduceSub, BEq.rfl, beq_self_eq_true, Int.reduceToNat]; trivial)) ?_
  clear hz1
  intro i1 s1 hi1 hW1 hz1
  refine AWP.seq ?_
  refine AWP.seq ?_
  refine AWP.regS G_ok laws_markSpareS_DD hc (by kernel_rfl) (fun K hK => ?_); simp only [ea, gv, sv, D_laws_markText, reduceCtorEq, reduceIte, Nat.reduceBEq, Nat.reduceAdd, Nat.reduceEqDiff, Nat.reduceLT, Nat.reduceLeDiff, Nat.reduceMul, Nat.reduceSub, BEq.rfl, beq_self_eq_true, Int.reduceToNat]
  (refine hK _ ?_)
  clear hK K
  refine AWP.cond rfl (fun hb => ?_) (fun hb => ?_)
  · have hlt1 : i1 < a0.length := by ((simp only [ob, ln, bdv, sv] at *; omega))
    rw [loopR_lt hlt1] at hz1; simp only [laws_markSpareS_b1] at hz1
    refine AWP.skip ?_
    refine AWP.seq ?_
    refine AWP.block ?_
    refine AWP.seq ?_
    refine AWP.regS G_ok laws_markSpareS_DD hc (by kernel_rfl) (fun K hK => ?_); simp only [ea, gv, sv, D_laws_markText, reduceCtorEq, reduceIte, Nat.reduceBEq, Nat.reduceAdd, Nat.reduceEqDiff, Nat.reduceLT, Nat.reduceLeDiff, Nat.reduceMul, Nat.reduceSub, BEq.rfl, beq_self_eq_true, Int.reduceToNat]
    (refine ⟨by (omega), hK _ ?_⟩)
    clear hK K
    refine AWP.seq ?_
    refine AWP.regS G_ok laws_markSpareS_DD hc (by kernel_rfl) (fun K hK => ?_); simp only [ea, gv, sv, D_laws_markText, reduceCtorEq, reduceIte, Nat.reduceBEq, Nat.reduceAdd, Nat.reduceEqDiff, Nat.reduceLT, Nat.reduceLeDiff, Nat.reduceMul, Nat.reduceSub, BEq.rfl, beq_self_eq_true, Int.reduceToNat]
    (refine hK _ ?_)
    clear hK K
    refine AWP.seq ?_
    refine AWP.regS G_ok laws_markSpareS_DD hc (by kernel_rfl) (fun K hK => ?_); simp only [ea, gv, sv, D_laws_markText, reduceCtorEq, reduceIte, Nat.reduceBEq, Nat.reduceAdd, Nat.reduceEqDiff, Nat.reduceLT, Nat.reduceLeDiff, Nat.reduceMul, Nat.reduceSub, BEq.rfl, beq_self_eq_true, Int.reduceToNat]
    (refine ⟨by (omega), hK _ ?_⟩)
    clear hK K
    refine AWP.seq ?_
    refine AWP.regS G_ok laws_markSpareS_DD hc (by kernel_rfl) (fun K hK => ?_); simp only [ea, gv, sv, D_laws_markText, reduceCtorEq, reduceIte, Nat.reduceBEq, Nat.reduceAdd, Nat.reduceEqDiff, Nat.reduceLT, Nat.reduceLeDiff, Nat.reduceMul, Nat.reduceSub, BEq.rfl, beq_self_eq_true, Int.reduceToNat]
    (refine hK _ ?_)
    clear hK K
    refine AWP.seq ?_
    refine AWP.regS G_ok laws_markSpareS_DD hc (by kernel_rfl) (fun K hK => ?_); simp only [ea, gv, sv, D_laws_markText, reduceCtorEq, reduceIte, Nat.reduceBEq, Nat.reduceAdd, Nat.reduceEqDiff, Nat.reduceLT, Nat.reduceLeDiff, Nat.reduceMul, Nat.reduceSub, BEq.rfl, beq_self_eq_true, Int.reduceToNat]
    (refine ⟨by (omega), hK _ ?_⟩)
    clear hK K
    refine AWP.regS G_ok laws_markSpareS_DD hc (by kernel_rfl) (fun K hK => ?_); simp only [ea, gv, sv, D_laws_markText, reduceCtorEq, reduceIte, Nat.reduceBEq, Nat.reduceAdd, Nat.reduceEqDiff, Nat.reduceLT, Nat.reduceLeDiff, Nat.reduceMul, Nat.reduceSub, BEq.rfl, beq_self_eq_true, Int.reduceToNat]
    (refine hK _ ?_)
    clear hK K
    refine AWP.regS G_ok laws_markSpareS_DD hc (by kernel_rfl) (fun K hK => ?_); simp only [ea, gv, sv, D_laws_markText, reduceCtorEq, reduceIte, Nat.reduceBEq, Nat.reduceAdd, Nat.reduceEqDiff, Nat.reduceLT, Nat.reduceLeDiff, Nat.reduceMul, Nat.reduceSub, BEq.rfl, beq_self_eq_true, Int.reduceToNat]
    (refine hK _ ?_)
    clear hK K
    exact ⟨_, [0], hlt1, by ((and_intros <;> simp only [ob, ln] at * <;> omega)), hz1, by (simp only [si, ea, gv, sv, hk, reduceCtorEq, reduceIte, Nat.reduceBEq, Nat.reduceAdd, Nat.reduceEqDiff, Nat.reduceLT, Nat.reduceLeDiff, Nat.reduceMul, Nat.reduceSub, BEq.rfl, beq_self_eq_true, Int.reduceToNat]; (and_intros <;> first | trivial | (rw [IntKind.wrap_i64]; omega) | (simp only [ln]; done) | (intro j hj; simp only [pw, Bool.cond_eq_ite, Bool.and_eq_true, decide_eq_true_eq]; (try rw [subL_getD _ _ _ _ (by assumption)]); (try rw [clearL_getD _ _ _ _ (by omega)]); (repeat' split) <;> first | rfl | omega)))⟩
  · obtain rfl : i1 = a0.length := by ((simp only [ob, ln, bdv, sv] at *; omega))
    rw [loopR_ge (Nat.le_refl _)] at hz1; subst hz1; dsimp only at hR
    refine AWP.exit ?_; refine exitTo_here ?_
    refine AWP.seq ?_
    refine AWP.regS G_ok laws_markSpareS_DD hc (by kernel_rfl) (fun K hK => ?_); simp only [ea, gv, sv, D_laws_markText, reduceCtorEq, reduceIte, Nat.reduceBEq, Nat.reduceAdd, Nat.reduceEqDiff, Nat.reduceLT, Nat.reduceLeDiff, Nat.reduceMul, Nat.reduceSub, BEq.rfl, beq_self_eq_true, Int.reduceToNat]
    (refine hK _ ?_)
    clear hK K
    refine AWP.ret ?_
    subst hR
    (simp only [en, si, ea, gv, sv, hk, reduceCtorEq, reduceIte, Nat.reduceBEq, Nat.reduceAdd, Nat.reduceEqDiff, Nat.reduceLT, Nat.reduceLeDiff, Nat.reduceMul, Nat.reduceSub, BEq.rfl, beq_self_eq_true, Int.reduceToNat]; (and_intros <;> omega))
def D_laws_markSpareS : List AV → Option (AV × List AV × List Prop)
  | [x0, x1] => some (.int .i64 ((laws_markSpareS (rdL dSpare x0) (rdI x1)).1), [(ownL 63 3 eSpare ((laws_markSpareS (rdL dSpare x0) (rdI x1)).2)), .any], [wO 63 3 eSpare dSpare x0, wI .i64 x1, 0 ≤ (rdI x1), (rdI x1) ≤ 1152921504606846976, (rdL dSpare x0).length < 1099511627776])
  | _ => none
theorem D_laws_markSpareS_ok : OkM Try.prog 98 D_laws_markSpareS := by
  intro xs r outs ob h ho
  unfold D_laws_markSpareS at h
  split at h
  · simp only [Option.some.injEq, Prod.mk.injEq] at h
    obtain ⟨rfl, rfl, rfl⟩ := h
    obtain ⟨h0, h1, hp0, hp1, hp2, _⟩ := ho
    exact DenM.sim (laws_markSpareS_den _ _ hp0 hp1 hp2) (simOL_cons (wO_sim h0) <| simOL_cons (wI_sim h1).1 <| trivial)
  · cases h
end Go.Ab

namespace Go.Ab
open Go Go.Proofs
theorem laws_heldEntryS_DD : DOk Try.prog (DD [(82, dP D_laws_markText)]) := DD_cons D_laws_markText_ok.e <| DD_nil _
def laws_heldEntryS_b1 (a0 : (List Entry)) (a1 : Int) (i1 : Nat) (s1 : Int) : Except (Int) (Int) :=
  (bif (((a0.getD i1 default).Day) != s1) then .error (-1) else (bif (((a0.getD i1 default).Item) != (laws_markText (IntKind.wrap .i64 (s1 + 1)))) then .error (-1) else (bif (((a0.getD i1 default).Amount) != (IntKind.wrap .i64 ((IntKind.wrap .i64 (s1 + 1)) + 1))) then .error (-1) else .ok (IntKind.wrap .i64 ((IntKind.wrap .i64 ((IntKind.wrap .i64 (s1 + 1)) + 1)) + 1)))))
def laws_heldEntryS (a0 : (List Entry)) (a1 : Int) : Int :=
  (match loopR (laws_heldEntryS_b1 a0 a1) (a0.length - 0) 0 a1 with | .error e => e | .ok s1 => s1)
theorem laws_heldEntryS_den (a0 : (List Entry)) (a1 : Int) (hp0 : 0 ≤ a1) (hp1 : a1 ≤ 1152921504606846976) (hp2 : a0.length < 1099511627776) : Den Try.prog 100 [encL 3 eEntry a0, .int .i64 a1] (.int .i64 (laws_heldEntryS a0 a1)) := by
  generalize hR : laws_heldEntryS a0 a1 = r
  unfold laws_heldEntryS at hR
  refine den_intro G_ok Try.func100 (by kernel_rfl) rfl Try.ntmps100 (by rw [Try.results100]) (by simp) rfl ?_
  intro c hL hc hk
  obtain ⟨hL0, hL1, _⟩ := hL
  have hw0 : a0.length < 9223372036854775808 := Nat.lt_succ_of_le (lens_encL hL0).1
  have hw1 : ∀ v ∈ a0, bwEntry v := fun v hv => Entry_lens v ((lens_encL hL0).2 v hv)
  clear hL0 hL1
  simp only [pars, Nat.zero_add]
  refine AWP.seq ?_
  refine AWP.regS G_ok laws_heldEntryS_DD hc (by kernel_rfl) (fun K hK => ?_); simp only [ea, gv, sv, D_laws_markText, reduceCtorEq, reduceIte, Nat.reduceBEq, Nat.reduceAdd, Nat.reduceEqDiff, Nat.reduceLT, Nat.reduceLeDiff, Nat.reduceMul, Nat.reduceSub, BEq.rfl, beq_self_eq_true, Int.reduceToNat]
  (refine hK _ ?_)
  clear hK K
  refine AWP.seq ?_
  refine AWP.seq ?_
  refine AWP.regS G_ok laws_heldEntryS_DD hc (by kernel_rfl) (fun K hK => ?_); simp only [ea, gv, sv, D_laws_markText, reduceCtorEq, reduceIte, Nat.reduceBEq, Nat.reduceAdd, Nat.reduceEqDiff, Nat.reduceLT, Nat.reduceLeDiff, Nat.reduceMul, Nat.reduceSub, BEq.rfl, beq_self_eq_true, Int.reduceToNat]
  (refine hK _ ?_)
  clear hK K
  refine AWP.block ?_
  generalize hz1 : loopR (laws_heldEntryS_b1 a0 a1) (a0.length - 0) 0 a1 = z1 at hR
  refine AWP.range (laws_heldEntryS_b1 a0 a1) (fun i1 s1 => ⟨[(0, encL 3 eEntry a0), (1, .int .i64 s1), (5, .int .i64 (i1 : Int))], []⟩) (fun i1 s1 => 0 ≤ s1 ∧ s1 ≤ a1 + 3 * i1) (a0.length) 0 a1 [] hz1 (by (omega)) (by ((and_intros <;> simp only [ob, ln] at * <;> omega))) (by (simp only [si, ea, gv, sv, hk, reduceCtorEq, reduceIte, Nat.reduceBEq, Nat.reduceAdd, Nat.reduceEqDiff, Nat.reduceLT, Nat.reduceLeDiff, Nat.reduceMul, Nat.reduceSub, BEq.rfl, beq_self_eq_true, Int.reduceToNat]; trivial)) ?_
  clear hz1
  intro i1 s1 hi1 hW1 hz1
  refine AWP.seq ?_
  refine AWP.seq ?_
  refine AWP.regS G_ok laws_heldEntryS_DD hc (by kernel_rfl) (fun K hK => ?_); simp only [ea, gv, sv, D_laws_markText, reduceCtorEq, reduceIte, Nat.reduceBEq, Nat.reduceAdd, Nat.reduceEqDiff, Nat.reduceLT, Nat.reduceLeDiff, Nat.reduceMul, Nat.reduceSub, BEq.rfl, beq_self_eq_true, Int.reduceToNat]
  (refine hK _ ?_)
  clear hK K
  refine AWP.cond rfl (fun hb => ?_) (fun hb => ?_)
  · have hlt1 : i1 < a0.length := by ((simp only [ob, ln, bdv, sv] at *; omega))
    rw [loopR_lt hlt1] at hz1; simp only [laws_heldEntryS_b1] at hz1
    refine AWP.skip ?_
    refine AWP.seq ?_
    refine AWP.block ?_
    refine AWP.seq ?_
    refine AWP.seq ?_
    refine AWP.regS G_ok laws_heldEntryS_DD hc (by kernel_rfl) (fun K hK => ?_); simp only [ea, gv, sv, D_laws_markText, reduceCtorEq, reduceIte, Nat.reduceBEq, Nat.reduceAdd, Nat.reduceEqDiff, Nat.reduceLT, Nat.reduceLeDiff, Nat.reduceMul, Nat.reduceSub, BEq.rfl, beq_self_eq_true, Int.reduceToNat]
    (refine ⟨by (omega), hK _ ?_⟩)
    clear hK K
    refine AWP.cond rfl (fun hb => ?_) (fun hb => ?_)
    · (simp only [hb, cond_true] at hz1)
      refine AWP.seq ?_
      refine AWP.regS G_ok laws_heldEntryS_DD hc (by kernel_rfl) (fun K hK => ?_); simp only [ea, gv, sv, D_laws_markText, reduceCtorEq, reduceIte, Nat.reduceBEq, Nat.reduceAdd, Nat.reduceEqDiff, Nat.reduceLT, Nat.reduceLeDiff, Nat.reduceMul, Nat.reduceSub, BEq.rfl, beq_self_eq_true, Int.reduceToNat]
      (refine hK _ ?_)
      clear hK K
      refine AWP.ret ?_
      subst hz1
      dsimp only at hR
      subst hR
      (simp only [en, si, ea, gv, sv, hk, reduceCtorEq, reduceIte, Nat.reduceBEq, Nat.reduceAdd, Nat.reduceEqDiff, Nat.reduceLT, Nat.reduceLeDiff, Nat.reduceMul, Nat.reduceSub, BEq.rfl, beq_self_eq_true, Int.reduceToNat]; done)
    · (simp only [hb, cond_false] at hz1)
      refine AWP.skip ?_
      refine AWP.seq ?_
      refine AWP.regS G_ok laws_heldEntryS_DD hc (by kernel_rfl) (fun K hK => ?_); simp only [ea, gv, sv, D_laws_markText, reduceCtorEq, reduceIte, Nat.reduceBEq, Nat.reduceAdd, Nat.reduceEqDiff, Nat.reduceLT, Nat.reduceLeDiff, Nat.reduceMul, Nat.reduceSub, BEq.rfl, beq_self_eq_true, Int.reduceToNat]
      (refine hK _ ?_)
      clear hK K
      refine AWP.seq ?_
      refine AWP.seq ?_
      refine AWP.regD mixed G_ok laws_heldEntryS_DD hc 7 (by kernel_rfl) (by kernel_rfl) (fun K hK => ?_); simp only [ea, gv, sv, D_laws_markText, reduceCtorEq, reduceIte, Nat.reduceBEq, Nat.reduceAdd, Nat.reduceEqDiff, Nat.reduceLT, Nat.reduceLeDiff, Nat.reduceMul, Nat.reduceSub, BEq.rfl, beq_self_eq_true, Int.reduceToNat]
      (refine ⟨by ((simp only [ob, ln, bdv, sv] at *; omega)), hK _ ?_⟩)
      clear hK K
      refine AWP.cond rfl (fun hb => ?_) (fun hb => ?_)
      · (simp only [hb, cond_true] at hz1)
        refine AWP.seq ?_
        refine AWP.regS G_ok laws_heldEntryS_DD hc (by kernel_rfl) (fun K hK => ?_); simp only [ea, gv, sv, D_laws_markText, reduceCtorEq, reduceIte, Nat.reduceBEq, Nat.reduceAdd, Nat.reduceEqDiff, Nat.reduceLT, Nat.reduceLeDiff, Nat.reduceMul, Nat.reduceSub, BEq.rfl, beq_self_eq_true, Int.reduceToNat]
        (refine hK _ ?_)
        clear hK K
        refine AWP.ret ?_
        subst hz1
        dsimp only at hR
        subst hR
        (simp only [en, si, ea, gv, sv, hk, reduceCtorEq, reduceIte, Nat.reduceBEq, Nat.reduceAdd, Nat.reduceEqDiff, Nat.reduceLT, Nat.reduceLeDiff, Nat.reduceMul, Nat.reduceSub, BEq.rfl, beq_self_eq_true, Int.reduceToNat]; done)
      · (simp only [hb, cond_false] at hz1)
        refine AWP.skip ?_
        refine AWP.seq ?_
        refine AWP.regS G_ok laws_heldEntryS_DD hc (by kernel_rfl) (fun K hK => ?_); simp only [ea, gv, sv, D_laws_markText, reduceCtorEq, reduceIte, Nat.reduceBEq, Nat.reduceAdd, Nat.reduceEqDiff, Nat.reduceLT, Nat.reduceLeDiff, Nat.reduceMul, Nat.reduceSub, BEq.rfl, beq_self_eq_true, Int.reduceToNat]
        (refine hK _ ?_)
        clear hK K
        refine AWP.seq ?_
        refine AWP.seq ?_
        refine AWP.regS G_ok laws_heldEntryS_DD hc (by kernel_rfl) (fun K hK => ?_); simp only [ea, gv, sv, D_laws_markText, reduceCtorEq, reduceIte, Nat.reduceBEq, Nat.reduceAdd, Nat.reduceEqDiff, Nat.reduceLT, Nat.reduceLeDiff, Nat.reduceMul, Nat.reduceSub, BEq.rfl, beq_self_eq_true, Int.reduceToNat]
        (refine ⟨by (omega), hK _ ?_⟩)
        clear hK K
        refine AWP.cond rfl (fun hb => ?_) (fun hb => ?_)
        · (simp only [hb, cond_true] at hz1)
          refine AWP.seq ?_
          refine AWP.regS G_ok laws_heldEntryS_DD hc (by kernel_rfl) (fun K hK => ?_); simp only [ea, gv, sv, D_laws_markText, reduceCtorEq, reduceIte, Nat.reduceBEq, Nat.reduceAdd, Nat.reduceEqDiff, Nat.reduceLT, Nat.reduceLeDiff, Nat.reduceMul, Nat.reduceSub, BEq.rfl, beq_self_eq_true, Int.reduceToNat]
          (refine hK _ ?_)
          clear hK K
          refine AWP.ret ?_
          subst hz1
          dsimp only at hR
          subst hR
          (simp only [en, si, ea, gv, sv, hk, reduceCtorEq, reduceIte, Nat.reduceBEq, Nat.reduceAdd, Nat.reduceEqDiff, Nat.reduceLT, Nat.reduceLeDiff, Nat.reduceMul, Nat.reduceSub, BEq.rfl, beq_self_eq_true, Int.reduceToNat]; done)
        · (simp only [hb, cond_false] at hz1)
          refine AWP.skip ?_
          refine AWP.regS G_ok laws_heldEntryS_DD hc (by kernel_rfl) (fun K hK => ?_); simp only [ea, gv, sv, D_laws_markText, reduceCtorEq, reduceIte, Nat.reduceBEq, Nat.reduceAdd, Nat.reduceEqDiff, Nat.reduceLT, Nat.reduceLeDiff, Nat.reduceMul, Nat.reduceSub, BEq.rfl, beq_self_eq_true, Int.reduceToNat]
          (refine hK _ ?_)
          clear hK K
          refine AWP.regS G_ok laws_heldEntryS_DD hc (by kernel_rfl) (fun K hK => ?_); simp only [ea, gv, sv, D_laws_markText, reduceCtorEq, reduceIte, Nat.reduceBEq, Nat.reduceAdd, Nat.reduceEqDiff, Nat.reduceLT, Nat.reduceLeDiff, Nat.reduceMul, Nat.reduceSub, BEq.rfl, beq_self_eq_true, Int.reduceToNat]
          (refine hK _ ?_)
          clear hK K
          exact ⟨_, [], hlt1, by ((and_intros <;> simp only [ob, ln] at * <;> omega)), hz1, by (simp only [si, ea, gv, sv, hk, reduceCtorEq, reduceIte, Nat.reduceBEq, Nat.reduceAdd, Nat.reduceEqDiff, Nat.reduceLT, Nat.reduceLeDiff, Nat.reduceMul, Nat.reduceSub, BEq.rfl, beq_self_eq_true, Int.reduceToNat]; (and_intros <;> first | trivial | (rw [IntKind.wrap_i64]; omega)))⟩
  · obtain rfl : i1 = a0.length := by ((simp only [ob, ln, bdv, sv] at *; omega))
    rw [loopR_ge (Nat.le_refl _)] at hz1; subst hz1; dsimp only at hR
    refine AWP.exit ?_; refine exitTo_here ?_
    refine AWP.seq ?_
    refine AWP.regS G_ok laws_heldEntryS_DD hc (by kernel_rfl) (fun K hK => ?_); simp only [ea, gv, sv, D_laws_markText, reduceCtorEq, reduceIte, Nat.reduceBEq, Nat.reduceAdd, Nat.reduceEqDiff, Nat.reduceLT, Nat.reduceLeDiff, Nat.reduceMul, Nat.reduceSub, BEq.rfl, beq_self_eq_true, Int.reduceToNat]
    (refine hK _ ?_)
    clear hK K
    refine AWP.ret ?_
    subst hR
    (simp only [en, si, ea, gv, sv, hk, reduceCtorEq, reduceIte, Nat.reduceBEq, Nat.reduceAdd, Nat.reduceEqDiff, Nat.reduceLT, Nat.reduceLeDiff, Nat.reduceMul, Nat.reduceSub, BEq.rfl, beq_self_eq_true, Int.reduceToNat]; done)
def D_laws_heldEntryS : DF
  | [x0, x1] => some (.int .i64 (laws_heldEntryS (rdL dEntry x0) (rdI x1)), false, [wL 3 eEntry dEntry x0, wI .i64 x1, 0 ≤ (rdI x1), (rdI x1) ≤ 1152921504606846976, (rdL dEntry x0).length < 1099511627776])
  | _ => none
theorem D_laws_heldEntryS_ok : OkD Try.prog 100 D_laws_heldEntryS := by
  intro xs r z ob h ho
  unfold D_laws_heldEntryS at h
  split at h
  · simp only [Option.some.injEq, Prod.mk.injEq] at h
    obtain ⟨rfl, rfl, rfl⟩ := h
    obtain ⟨h0, h1, hp0, hp1, hp2, _⟩ := ho
    exact Den.sim (laws_heldEntryS_den _ _ hp0 hp1 hp2) (simOL_cons (wL_sim h0).1 <| simOL_cons (wI_sim h1).1 <| trivial) (noIdL_cons (wL_sim h0).2 <| noIdL_cons (wI_sim h1).2 <| rfl) rfl
  · cases h
end Go.Ab

namespace Go.Ab
open Go Go.Proofs
def mkEntry (v : Int) : Entry := ⟨v, (laws_markText (v + 1)), (v + 2)⟩
theorem laws_markEntryS_len (a : List Entry) (k : Int) : (laws_markEntryS a k).2.length = a.length := by
  unfold laws_markEntryS
  obtain ⟨t, h1, h2⟩ := loopR_total (b := laws_markEntryS_b1 a k) (fun _ s => s.2.length = a.length) (k := a.length - 0) (i := 0) (s := (k, a)) rfl (by
    intro j u _ _ h
    exact ⟨_, rfl, by simpa using h⟩)
  rw [h1]
  exact h2
theorem laws_markEntryS_sub (a : List Entry) (k : Int) : subL (laws_markEntryS a k).2 0 a.length = (laws_markEntryS a k).2 := by
  rw [← laws_markEntryS_len a k]; exact subL_all _
theorem laws_markEntryS_eq (a : List Entry) (k : Int) (h0 : 0 ≤ k) (h1 : k + 3 * a.length < 4611686018427387904) : laws_markEntryS a k = (k + 3 * a.length, (List.range a.length).map (fun j : Nat => mkEntry (k + 3 * j))) := by
  unfold laws_markEntryS
  obtain ⟨t, q1, q2, q3, q4⟩ := loopR_total (b := laws_markEntryS_b1 a k) (fun i s => s.1 = k + 3 * i ∧ s.2.length = a.length ∧ ∀ j, j < i → s.2.getD j default = mkEntry (k + 3 * j)) (k := a.length - 0) (i := 0) (s := (k, a)) ⟨by simp, rfl, by intro j hj; omega⟩ (by
    intro j u _ hj ⟨h2, h3, h4⟩
    have w1 : ∀ m : Int, 0 ≤ m → m < 4611686018427387904 → IntKind.wrap .i64 (m + 1) = m + 1 := by intro m _ _; rw [IntKind.wrap_i64]; omega
    have w0 : ∀ m : Int, 0 ≤ m → m < 4611686018427387904 → IntKind.wrap .i64 m = m := by intro m _ _; rw [IntKind.wrap_i64]; omega
    refine ⟨_, rfl, ?_, ?_, ?_⟩
    · simp only [h2, IntKind.wrap_i64]; omega
    · simpa using h3
    · intro q hq
      simp only
      rw [lgetD_set]
      by_cases h : q = j
      · subst h
        rw [if_pos ⟨rfl, by omega⟩, h2]
        simp only [mkEntry]
        all_goals (try rw [Entry.mk.injEq])
        all_goals (and_intros <;> first | rfl | trivial | (simp only [IntKind.wrap_i64]; omega) | (congr 1; (simp only [IntKind.wrap_i64]; omega)))
      · rw [if_neg (fun hh => h hh.1)]
        exact h4 q (by omega))
  rw [q1]
  simp only [Nat.zero_add, Nat.sub_zero] at q2 q4
  simp only [q2]
  congr 1
  apply getD_ext
  · simpa using q3
  · intro i hi
    rw [q4 i (by omega)]
    simp [List.getD_eq_getElem?_getD]
    rw [List.getElem?_range (by omega)]
    rfl
theorem laws_markEntryS_k (a : List Entry) (k : Int) (h0 : 0 ≤ k) (h1 : k ≤ 1152921504606846976) (hl : a.length < 1099511627776) : (laws_markEntryS a k).1 = k + 3 * a.length := by
  rw [laws_markEntryS_eq a k h0 (by omega)]
theorem laws_heldEntryS_mark (a : List Entry) (k : Int) (h0 : 0 ≤ k) (hk : k ≤ 1152921504606846976) (h1 : a.length < 1099511627776) : laws_heldEntryS (laws_markEntryS a k).2 k = (laws_markEntryS a k).1 ∧ ¬ (laws_markEntryS a k).1 < 0 := by
  rw [laws_markEntryS_eq a k h0 (by omega)]
  refine ⟨?_, by simp only; omega⟩
  simp only
  unfold laws_heldEntryS
  obtain ⟨t, q1, q2⟩ := loopR_total (b := laws_heldEntryS_b1 ((List.range a.length).map (fun j : Nat => mkEntry (k + 3 * j))) k) (fun i s => s = k + 3 * (i : Int)) (k := ((List.range a.length).map (fun j : Nat => mkEntry (k + 3 * j))).length - 0) (i := 0) (s := k) (by simp) (by
    intro j u _ hj h2
    have hj2 : j < a.length := by simpa using hj
    have hg : ((List.range a.length).map (fun j : Nat => mkEntry (k + 3 * j))).getD j default = mkEntry (k + 3 * j) := by
      simp [List.getD_eq_getElem?_getD, hj2]
    subst h2
    refine ⟨k + 3 * ((j + 1 : Nat) : Int), ?_, rfl⟩
    have e1 : ∀ m : Int, 0 ≤ m → m < 4611686018427387904 → (m + 9223372036854775808) % 18446744073709551616 - 9223372036854775808 = m := by intro m _ _; omega
    simp only [laws_heldEntryS_b1]
    simp only [hg]
    simp only [mkEntry, IntKind.wrap_i64]
    (repeat rw [e1 _ (by omega) (by omega)])
    simp only [Int.add_assoc, Int.reduceAdd, bne_self_eq_false, cond_false, Except.ok.injEq]
    omega)
  rw [q1]
  simp only [q2]
  simp
end Go.Ab

namespace Go.Ab
open Go Go.Proofs
theorem laws_heldSpareS_DD : DOk Try.prog (DD [(82, dP D_laws_markText)]) := DD_cons D_laws_markText_ok.e <| DD_nil _
def laws_heldSpareS_b1 (a0 : (List Spare)) (a1 : Int) (i1 : Nat) (s1 : Int) : Except (Int) (Int) :=
  (bif (((a0.getD i1 default).Name) != (laws_markText s1)) then .error (-1) else (bif (((a0.getD i1 default).Least) != (IntKind.wrap .i64 (s1 + 1))) then .error (-1) else (bif (((a0.getD i1 default).Most) != (IntKind.wrap .i64 ((IntKind.wrap .i64 (s1 + 1)) + 1))) then .error (-1) else .ok (IntKind.wrap .i64 ((IntKind.wrap .i64 ((IntKind.wrap .i64 (s1 + 1)) + 1)) + 1)))))
def laws_heldSpareS (a0 : (List Spare)) (a1 : Int) : Int :=
  (match loopR (laws_heldSpareS_b1 a0 a1) (a0.length - 0) 0 a1 with | .error e => e | .ok s1 => s1)
theorem laws_heldSpareS_den (a0 : (List Spare)) (a1 : Int) (hp0 : 0 ≤ a1) (hp1 : a1 ≤ 1152921504606846976) (hp2 : a0.length < 1099511627776) : Den Try.prog 99 [encL 3 eSpare a0, .int .i64 a1] (.int .i64 (laws_heldSpareS a0 a1)) := by
  generalize hR : laws_heldSpareS a0 a1 = r
  unfold laws_heldSpareS at hR
  refine den_intro G_ok Try.func99 (by kernel_rfl) rfl Try.ntmps99 (by rw [Try.results99]) (by simp) rfl ?_
  intro c hL hc hk
  obtain ⟨hL0, hL1, _⟩ := hL
  have hw0 : a0.length < 9223372036854775808 := Nat.lt_succ_of_le (lens_encL hL0).1
  have hw1 : ∀ v ∈ a0, bwSpare v := fun v hv => Spare_lens v ((lens_encL hL0).2 v hv)
  clear hL0 hL1
  simp only [pars, Nat.zero_add]
  refine AWP.seq ?_
  refine AWP.regS G_ok laws_heldSpareS_DD hc (by kernel_rfl) (fun K hK => ?_); simp only [ea, gv, sv, D_laws_markText, reduceCtorEq, reduceIte, Nat.reduceBEq, Nat.reduceAdd, Nat.reduceEqDiff, Nat.reduceLT, Nat.reduceLeDiff, Nat.reduceMul, Nat.reduceSub, BEq.rfl, beq_self_eq_true, Int.reduceToNat]
  (refine hK _ ?_)
  clear hK K
  refine AWP.seq ?_
  refine AWP.seq ?_
  refine AWP.regS G_ok laws_heldSpareS_DD hc (by kernel_rfl) (fun K hK => ?_); simp only [ea, gv, sv, D_laws_markText, reduceCtorEq, reduceIte, Nat.reduceBEq, Nat.reduceAdd, Nat.reduceEqDiff, Nat.reduceLT, Nat.reduceLeDiff, Nat.reduceMul, Nat.reduceSub, BEq.rfl, beq_self_eq_true, Int.reduceToNat]
  (refine hK _ ?_)
  clear hK K
  refine AWP.block ?_
  generalize hz1 : loopR (laws_heldSpareS_b1 a0 a1) (a0.length - 0) 0 a1 = z1 at hR
  refine AWP.range (laws_heldSpareS_b1 a0 a1) (fun i1 s1 => ⟨[(0, encL 3 eSpare a0), (1, .int .i64 s1), (5, .int .i64 (i1 : Int))], []⟩) (fun i1 s1 => 0 ≤ s1 ∧ s1 ≤ a1 + 3 * i1) (a0.length) 0 a1 [] hz1 (by (omega)) (by ((and_intros <;> simp only [ob, ln] at * <;> omega))) (by (simp only [si, ea, gv, sv, hk, reduceCtorEq, reduceIte, Nat.reduceBEq, Nat.reduceAdd, Nat.reduceEqDiff, Nat.reduceLT, Nat.reduceLeDiff, Nat.reduceMul, Nat.reduceSub, BEq.rfl, beq_self_eq_true, Int.reduceToNat]; trivial)) ?_
  clear hz1
  intro i1 s1 hi1 hW1 hz1
  refine AWP.seq ?_
  refine AWP.seq ?_
  refine AWP.regS G_ok laws_heldSpareS_DD hc (by kernel_rfl) (fun K hK => ?_); simp only [ea, gv, sv, D_laws_markText, reduceCtorEq, reduceIte, Nat.reduceBEq, Nat.reduceAdd, Nat.reduceEqDiff, Nat.reduceLT, Nat.reduceLeDiff, Nat.reduceMul, Nat.reduceSub, BEq.rfl, beq_self_eq_true, Int.reduceToNat]
  (refine hK _ ?_)
  clear hK K
  refine AWP.cond rfl (fun hb => ?_) (fun hb => ?_)
  · have hlt1 : i1 < a0.length := by ((simp only [ob, ln, bdv, sv] at *; omega))
    rw [loopR_lt hlt1] at hz1; simp only [laws_heldSpareS_b1] at hz1
    refine AWP.skip ?_
    refine AWP.seq ?_
    refine AWP.block ?_
    refine AWP.seq ?_
    refine AWP.seq ?_
    refine AWP.regD mixed G_ok laws_heldSpareS_DD hc 7 (by kernel_rfl) (by kernel_rfl) (fun K hK => ?_); simp only [ea, gv, sv, D_laws_markText, reduceCtorEq, reduceIte, Nat.reduceBEq, Nat.reduceAdd, Nat.reduceEqDiff, Nat.reduceLT, Nat.reduceLeDiff, Nat.reduceMul, Nat.reduceSub, BEq.rfl, beq_self_eq_true, Int.reduceToNat]
    (refine ⟨by (omega), hK _ ?_⟩)
    clear hK K
    refine AWP.cond rfl (fun hb => ?_) (fun hb => ?_)
    · (simp only [hb, cond_true] at hz1)
      refine AWP.seq ?_
      refine AWP.regS G_ok laws_heldSpareS_DD hc (by kernel_rfl) (fun K hK => ?_); simp only [ea, gv, sv, D_laws_markText, reduceCtorEq, reduceIte, Nat.reduceBEq, Nat.reduceAdd, Nat.reduceEqDiff, Nat.reduceLT, Nat.reduceLeDiff, Nat.reduceMul, Nat.reduceSub, BEq.rfl, beq_self_eq_true, Int.reduceToNat]
      (refine hK _ ?_)
      clear hK K
      refine AWP.ret ?_
      subst hz1
      dsimp only at hR
      subst hR
      (simp only [en, si, ea, gv, sv, hk, reduceCtorEq, reduceIte, Nat.reduceBEq, Nat.reduceAdd, Nat.reduceEqDiff, Nat.reduceLT, Nat.reduceLeDiff, Nat.reduceMul, Nat.reduceSub, BEq.rfl, beq_self_eq_true, Int.reduceToNat]; done)
    · (simp only [hb, cond_false] at hz1)
      refine AWP.skip ?_
      refine AWP.seq ?_
      refine AWP.regS G_ok laws_heldSpareS_DD hc (by kernel_rfl) (fun K hK => ?_); simp only [ea, gv, sv, D_laws_markText, reduceCtorEq, reduceIte, Nat.reduceBEq, Nat.reduceAdd, Nat.reduceEqDiff, Nat.reduceLT, Nat.reduceLeDiff, Nat.reduceMul, Nat.reduceSub, BEq.rfl, beq_self_eq_true, Int.reduceToNat]
      (refine hK _ ?_)
      clear hK K
      refine AWP.seq ?_
      refine AWP.seq ?_
      refine AWP.regS G_ok laws_heldSpareS_DD hc (by kernel_rfl) (fun K hK => ?_); simp only [ea, gv, sv, D_laws_markText, reduceCtorEq, reduceIte, Nat.reduceBEq, Nat.reduceAdd, Nat.reduceEqDiff, Nat.reduceLT, Nat.reduceLeDiff, Nat.reduceMul, Nat.reduceSub, BEq.rfl, beq_self_eq_true, Int.reduceToNat]
      (refine ⟨by (omega), hK _ ?_⟩)
      clear hK K
      refine AWP.cond rfl (fun hb => ?_) (fun hb => ?_)
      · (simp only [hb, cond_true] at hz1)
        refine AWP.seq ?_
        refine AWP.regS G_ok laws_heldSpareS_DD hc (by kernel_rfl) (fun K hK => ?_); simp only [ea, gv, sv, D_laws_markText, reduceCtorEq, reduceIte, Nat.reduceBEq, Nat.reduceAdd, Nat.reduceEqDiff, Nat.reduceLT, Nat.reduceLeDiff, Nat.reduceMul, Nat.reduceSub, BEq.rfl, beq_self_eq_true, Int.reduceToNat]
        (refine hK _ ?_)
        clear hK K
        refine AWP.ret ?_
        subst hz1
        dsimp only at hR
        subst hR
        (simp only [en, si, ea, gv, sv, hk, reduceCtorEq, reduceIte, Nat.reduceBEq, Nat.reduceAdd, Nat.reduceEqDiff, Nat.reduceLT, Nat.reduceLeDiff, Nat.reduceMul, Nat.reduceSub, BEq.rfl, beq_self_eq_true, Int.reduceToNat]; done)
      · (simp only [hb, cond_false] at hz1)
        refine AWP.skip ?_
        refine AWP.seq ?_
        refine AWP.regS G_ok laws_heldSpareS_DD hc (by kernel_rfl) (fun K hK => ?_); simp only [ea, gv, sv, D_laws_markText, reduceCtorEq, reduceIte, Nat.reduceBEq, Nat.reduceAdd, Nat.reduceEqDiff, Nat.reduceLT, Nat.reduceLeDiff, Nat.reduceMul, Nat.reduceSub, BEq.rfl, beq_self_eq_true, Int.reduceToNat]
        (refine hK _ ?_)
        clear hK K
        refine AWP.seq ?_
        refine AWP.seq ?_
        refine AWP.regS G_ok laws_heldSpareS_DD hc (by kernel_rfl) (fun K hK => ?_); simp only [ea, gv, sv, D_laws_markText, reduceCtorEq, reduceIte, Nat.reduceBEq, Nat.reduceAdd, Nat.reduceEqDiff, Nat.reduceLT, Nat.reduceLeDiff, Nat.reduceMul, Nat.reduceSub, BEq.rfl, beq_self_eq_true, Int.reduceToNat]
        (refine ⟨by (omega), hK _ ?_⟩)
        clear hK K
        refine AWP.cond rfl (fun hb => ?_) (fun hb => ?_)
        · (simp only [hb, cond_true] at hz1)
          refine AWP.seq ?_
          refine AWP.regS G_ok laws_heldSpareS_DD hc (by kernel_rfl) (fun K hK => ?_); simp only [ea, gv, sv, D_laws_markText, reduceCtorEq, reduceIte, Nat.reduceBEq, Nat.reduceAdd, Nat.reduceEqDiff, Nat.reduceLT, Nat.reduceLeDiff, Nat.reduceMul, Nat.reduceSub, BEq.rfl, beq_self_eq_true, Int.reduceToNat]
          (refine hK _ ?_)
          clear hK K
          refine AWP.ret ?_
          subst hz1
          dsimp only at hR
          subst hR
          (simp only [en, si, ea, gv, sv, hk, reduceCtorEq, reduceIte, Nat.reduceBEq, Nat.reduceAdd, Nat.reduceEqDiff, Nat.reduceLT, Nat.reduceLeDiff, Nat.reduceMul, Nat.reduceSub, BEq.rfl, beq_self_eq_true, Int.reduceToNat]; done)
        · (simp only [hb, cond_false] at hz1)
          refine AWP.skip ?_
          refine AWP.regS G_ok laws_heldSpareS_DD hc (by kernel_rfl) (fun K hK => ?_); simp only [ea, gv, sv, D_laws_markText, reduceCtorEq, reduceIte, Nat.reduceBEq, Nat.reduceAdd, Nat.reduceEqDiff, Nat.reduceLT, Nat.reduceLeDiff, Nat.reduceMul, Nat.reduceSub, BEq.rfl, beq_self_eq_true, Int.reduceToNat]
          (refine hK _ ?_)
          clear hK K
          refine AWP.regS G_ok laws_heldSpareS_DD hc (by kernel_rfl) (fun K hK => ?_); simp only [ea, gv, sv, D_laws_markText, reduceCtorEq, reduceIte, Nat.reduceBEq, Nat.reduceAdd, Nat.reduceEqDiff, Nat.reduceLT, Nat.reduceLeDiff, Nat.reduceMul, Nat.reduceSub, BEq.rfl, beq_self_eq_true, Int.reduceToNat]
          (refine hK _ ?_)
          clear hK K
          exact ⟨_, [], hlt1, by ((and_intros <;> simp only [ob, ln] at * <;> omega)), hz1, by (simp only [si, ea, gv, sv, hk, reduceCtorEq, reduceIte, Nat.reduceBEq, Nat.reduceAdd, Nat.reduceEqDiff, Nat.reduceLT, Nat.reduceLeDiff, Nat.reduceMul, Nat.reduceSub, BEq.rfl, beq_self_eq_true, Int.reduceToNat]; (and_intros <;> first | trivial | (rw [IntKind.wrap_i64]; omega)))⟩
  · obtain rfl : i1 = a0.length := by ((simp only [ob, ln, bdv, sv] at *; omega))
    rw [loopR_ge (Nat.le_refl _)] at hz1; subst hz1; dsimp only at hR
    refine AWP.exit ?_; refine exitTo_here ?_
    refine AWP.seq ?_
    refine AWP.regS G_ok laws_heldSpareS_DD hc (by kernel_rfl) (fun K hK => ?_); simp only [ea, gv, sv, D_laws_markText, reduceCtorEq, reduceIte, Nat.reduceBEq, Nat.reduceAdd, Nat.reduceEqDiff, Nat.reduceLT, Nat.reduceLeDiff, Nat.reduceMul, Nat.reduceSub, BEq.rfl, beq_self_eq_true, Int.reduceToNat]
    (refine hK _ ?_)
    clear hK K
    refine AWP.ret ?_
    subst hR
    (simp only [en, si, ea, gv, sv, hk, reduceCtorEq, reduceIte, Nat.reduceBEq, Nat.reduceAdd, Nat.reduceEqDiff, Nat.reduceLT, Nat.reduceLeDiff, Nat.reduceMul, Nat.reduceSub, BEq.rfl, beq_self_eq_true, Int.reduceToNat]; done)
def D_laws_heldSpareS : DF
  | [x0, x1] => some (.int .i64 (laws_heldSpareS (rdL dSpare x0) (rdI x1)), false, [wL 3 eSpare dSpare x0, wI .i64 x1, 0 ≤ (rdI x1), (rdI x1) ≤ 1152921504606846976, (rdL dSpare x0).length < 1099511627776])
  | _ => none
theorem D_laws_heldSpareS_ok : OkD Try.prog 99 D_laws_heldSpareS := by
  intro xs r z ob h ho
  unfold D_laws_heldSpareS at h
  split at h
  · simp only [Option.some.injEq, Prod.mk.injEq] at h
    obtain ⟨rfl, rfl, rfl⟩ := h
    obtain ⟨h0, h1, hp0, hp1, hp2, _⟩ := ho
    exact Den.sim (laws_heldSpareS_den _ _ hp0 hp1 hp2) (simOL_cons (wL_sim h0).1 <| simOL_cons (wI_sim h1).1 <| trivial) (noIdL_cons (wL_sim h0).2 <| noIdL_cons (wI_sim h1).2 <| rfl) rfl
  · cases h
end Go.Ab

namespace Go.Ab
open Go Go.Proofs
def mkSpare (v : Int) : Spare := ⟨(laws_markText v), (v + 1), (v + 2)⟩
theorem laws_markSpareS_len (a : List Spare) (k : Int) : (laws_markSpareS a k).2.length = a.length := by
  unfold laws_markSpareS
  obtain ⟨t, h1, h2⟩ := loopR_total (b := laws_markSpareS_b1 a k) (fun _ s => s.2.length = a.length) (k := a.length - 0) (i := 0) (s := (k, a)) rfl (by
    intro j u _ _ h
    exact ⟨_, rfl, by simpa using h⟩)
  rw [h1]
  exact h2
theorem laws_markSpareS_sub (a : List Spare) (k : Int) : subL (laws_markSpareS a k).2 0 a.length = (laws_markSpareS a k).2 := by
  rw [← laws_markSpareS_len a k]; exact subL_all _
theorem laws_markSpareS_eq (a : List Spare) (k : Int) (h0 : 0 ≤ k) (h1 : k + 3 * a.length < 4611686018427387904) : laws_markSpareS a k = (k + 3 * a.length, (List.range a.length).map (fun j : Nat => mkSpare (k + 3 * j))) := by
  unfold laws_markSpareS
  obtain ⟨t, q1, q2, q3, q4⟩ := loopR_total (b := laws_markSpareS_b1 a k) (fun i s => s.1 = k + 3 * i ∧ s.2.length = a.length ∧ ∀ j, j < i → s.2.getD j default = mkSpare (k + 3 * j)) (k := a.length - 0) (i := 0) (s := (k, a)) ⟨by simp, rfl, by intro j hj; omega⟩ (by
    intro j u _ hj ⟨h2, h3, h4⟩
    have w1 : ∀ m : Int, 0 ≤ m → m < 4611686018427387904 → IntKind.wrap .i64 (m + 1) = m + 1 := by intro m _ _; rw [IntKind.wrap_i64]; omega
    have w0 : ∀ m : Int, 0 ≤ m → m < 4611686018427387904 → IntKind.wrap .i64 m = m := by intro m _ _; rw [IntKind.wrap_i64]; omega
    refine ⟨_, rfl, ?_, ?_, ?_⟩
    · simp only [h2, IntKind.wrap_i64]; omega
    · simpa using h3
    · intro q hq
      simp only
      rw [lgetD_set]
      by_cases h : q = j
      · subst h
        rw [if_pos ⟨rfl, by omega⟩, h2]
        simp only [mkSpare]
        all_goals (try rw [Spare.mk.injEq])
        all_goals (and_intros <;> first | rfl | trivial | (simp only [IntKind.wrap_i64]; omega) | (congr 1; (simp only [IntKind.wrap_i64]; omega)))
      · rw [if_neg (fun hh => h hh.1)]
        exact h4 q (by omega))
  rw [q1]
  simp only [Nat.zero_add, Nat.sub_zero] at q2 q4
  simp only [q2]
  congr 1
  apply getD_ext
  · simpa using q3
  · intro i hi
    rw [q4 i (by omega)]
    simp [List.getD_eq_getElem?_getD]
    rw [List.getElem?_range (by omega)]
    rfl
theorem laws_markSpareS_k (a : List Spare) (k : Int) (h0 : 0 ≤ k) (h1 : k ≤ 1152921504606846976) (hl : a.length < 1099511627776) : (laws_markSpareS a k).1 = k + 3 * a.length := by
  rw [laws_markSpareS_eq a k h0 (by omega)]
theorem laws_heldSpareS_mark (a : List Spare) (k : Int) (h0 : 0 ≤ k) (hk : k ≤ 1152921504606846976) (h1 : a.length < 1099511627776) : laws_heldSpareS (laws_markSpareS a k).2 k = (laws_markSpareS a k).1 ∧ ¬ (laws_markSpareS a k).1 < 0 := by
  rw [laws_markSpareS_eq a k h0 (by omega)]
  refine ⟨?_, by simp only; omega⟩
  simp only
  unfold laws_heldSpareS
  obtain ⟨t, q1, q2⟩ := loopR_total (b := laws_heldSpareS_b1 ((List.range a.length).map (fun j : Nat => mkSpare (k + 3 * j))) k) (fun i s => s = k + 3 * (i : Int)) (k := ((List.range a.length).map (fun j : Nat => mkSpare (k + 3 * j))).length - 0) (i := 0) (s := k) (by simp) (by
    intro j u _ hj h2
    have hj2 : j < a.length := by simpa using hj
    have hg : ((List.range a.length).map (fun j : Nat => mkSpare (k + 3 * j))).getD j default = mkSpare (k + 3 * j) := by
      simp [List.getD_eq_getElem?_getD, hj2]
    subst h2
    refine ⟨k + 3 * ((j + 1 : Nat) : Int), ?_, rfl⟩
    have e1 : ∀ m : Int, 0 ≤ m → m < 4611686018427387904 → (m + 9223372036854775808) % 18446744073709551616 - 9223372036854775808 = m := by intro m _ _; omega
    simp only [laws_heldSpareS_b1]
    simp only [hg]
    simp only [mkSpare, IntKind.wrap_i64]
    (repeat rw [e1 _ (by omega) (by omega)])
    simp only [Int.add_assoc, Int.reduceAdd, bne_self_eq_false, cond_false, Except.ok.injEq]
    omega)
  rw [q1]
  simp only [q2]
  simp
end Go.Ab

namespace Go.Ab
open Go Go.Proofs
theorem laws_markStore_DD : DOk Try.prog (DD [(61, dM [true, false] D_laws_markEntryS), (98, dM [true, false] D_laws_markSpareS)]) := DD_cons D_laws_markEntryS_ok.e <| DD_cons D_laws_markSpareS_ok.e <| DD_nil _
def laws_markStore (a0 : Store) (a1 : Int) : Int × Store :=
  (((laws_markEntryS a0.Entries ((laws_markSpareS a0.Spares a1).1)).1), { a0 with Spares := (laws_markSpareS a0.Spares a1).2, Entries := (laws_markEntryS a0.Entries ((laws_markSpareS a0.Spares a1).1)).2 })
theorem laws_markStore_den (a0 : Store) (a1 : Int) (hp0 : 0 ≤ a1) (hp1 : a1 ≤ 1073741824) (hp2 : a0.Spares.length < 1099511627776) (hp3 : a0.Entries.length < 1099511627776) : DenM Try.prog 37 [.agg (eStoreO a0), .int .i64 a1] (.int .i64 ((laws_markStore a0 a1).1)) [(.agg [(ownL 63 3 eSpare (((laws_markStore a0 a1).2).Spares)), (ownL 66 3 eEntry (((laws_markStore a0 a1).2).Entries))]), .any] := by
  generalize hR : laws_markStore a0 a1 = r
  unfold laws_markStore at hR
  refine den_introM (gb := [true, false]) G_ok Try.func37 (by kernel_rfl) rfl Try.ntmps37 (by rw [Try.results37]) (by simp) ?_
  intro c hL hc hk
  obtain ⟨hL0, hL1, _⟩ := hL
  have hw0 : bwStore a0 := Store_lensO a0 hL0
  clear hL0 hL1
  simp only [adEL, adE, adRL, adR, ownL, encL, sv, List.nil_append, List.append_nil, List.cons_append, List.length_cons, List.length_nil, pars, Nat.zero_add, Nat.reduceAdd] at hk ⊢
  have hk1 := laws_markSpareS_k a0.Spares a1 hp0 (by omega) hp2
  refine AWP.seq ?_
  refine AWP.regS G_ok laws_markStore_DD hc (by kernel_rfl) (fun K hK => ?_); simp only [ea, absV, absVL, gv, sv, laws_markEntryS_sub, laws_markSpareS_sub, D_laws_markEntryS, D_laws_markSpareS, reduceCtorEq, reduceIte, Nat.reduceBEq, Nat.reduceAdd, Nat.reduceEqDiff, Nat.reduceLT, Nat.reduceLeDiff, Nat.reduceMul, Nat.reduceSub, BEq.rfl, beq_self_eq_true, Int.reduceToNat]
  (refine hK _ ?_)
  clear hK K
  refine AWP.seq ?_
  refine AWP.regS G_ok laws_markStore_DD hc (by kernel_rfl) (fun K hK => ?_); simp only [ea, absV, absVL, gv, sv, laws_markEntryS_sub, laws_markSpareS_sub, D_laws_markEntryS, D_laws_markSpareS, reduceCtorEq, reduceIte, Nat.reduceBEq, Nat.reduceAdd, Nat.reduceEqDiff, Nat.reduceLT, Nat.reduceLeDiff, Nat.reduceMul, Nat.reduceSub, BEq.rfl, beq_self_eq_true, Int.reduceToNat]
  (refine ⟨by (((try clear hK K); (repeat' (apply And.intro)) <;> first | trivial | omega)), hK _ ?_⟩)
  clear hK K
  refine AWP.seq ?_
  refine AWP.regS G_ok laws_markStore_DD hc (by kernel_rfl) (fun K hK => ?_); simp only [ea, absV, absVL, gv, sv, laws_markEntryS_sub, laws_markSpareS_sub, D_laws_markEntryS, D_laws_markSpareS, reduceCtorEq, reduceIte, Nat.reduceBEq, Nat.reduceAdd, Nat.reduceEqDiff, Nat.reduceLT, Nat.reduceLeDiff, Nat.reduceMul, Nat.reduceSub, BEq.rfl, beq_self_eq_true, Int.reduceToNat]
  (refine ⟨by (((try clear hK K); (repeat' (apply And.intro)) <;> first | trivial | omega)), hK _ ?_⟩)
  clear hK K
  refine AWP.seq ?_
  refine AWP.regS G_ok laws_markStore_DD hc (by kernel_rfl) (fun K hK => ?_); simp only [ea, absV, absVL, gv, sv, laws_markEntryS_sub, laws_markSpareS_sub, D_laws_markEntryS, D_laws_markSpareS, reduceCtorEq, reduceIte, Nat.reduceBEq, Nat.reduceAdd, Nat.reduceEqDiff, Nat.reduceLT, Nat.reduceLeDiff, Nat.reduceMul, Nat.reduceSub, BEq.rfl, beq_self_eq_true, Int.reduceToNat]
  (refine hK _ ?_)
  clear hK K
  refine AWP.ret ?_
  subst hR
  (simp only [en, si, ea, gv, sv, hk, reduceCtorEq, reduceIte, Nat.reduceBEq, Nat.reduceAdd, Nat.reduceEqDiff, Nat.reduceLT, Nat.reduceLeDiff, Nat.reduceMul, Nat.reduceSub, BEq.rfl, beq_self_eq_true, Int.reduceToNat]; (and_intros <;> (simp only [ob, ln, bdv, laws_markEntryS_len, laws_markSpareS_len, sv] at *; done)))
def D_laws_markStore : List AV → Option (AV × List AV × List Prop)
  | [x0, x1] => some (.int .i64 ((laws_markStore (rdG dStore x0) (rdI x1)).1), [(.agg [(ownL 63 3 eSpare (((laws_markStore (rdG dStore x0) (rdI x1)).2).Spares)), (ownL 66 3 eEntry (((laws_markStore (rdG dStore x0) (rdI x1)).2).Entries))]), .any], [wGO eStoreO dStore x0, wI .i64 x1, 0 ≤ (rdI x1), (rdI x1) ≤ 1073741824, (rdG dStore x0).Spares.length < 1099511627776, (rdG dStore x0).Entries.length < 1099511627776])
  | _ => none
theorem D_laws_markStore_ok : OkM Try.prog 37 D_laws_markStore := by
  intro xs r outs ob h ho
  unfold D_laws_markStore at h
  split at h
  · simp only [Option.some.injEq, Prod.mk.injEq] at h
    obtain ⟨rfl, rfl, rfl⟩ := h
    obtain ⟨h0, h1, hp0, hp1, hp2, hp3, _⟩ := ho
    exact DenM.sim (laws_markStore_den _ _ hp0 hp1 hp2 hp3) (simOL_cons (wGO_sim h0) <| simOL_cons (wI_sim h1).1 <| trivial)
  · cases h
end Go.Ab

namespace Go.Ab
open Go Go.Proofs
theorem loopR_keep {ρ σ : Type} {b : Nat → σ → Except ρ σ} (I : Nat → σ → Prop) : ∀ {k i : Nat} {s t : σ}, loopR b k i s = .ok t → I i s → (∀ j u v, i ≤ j → j < i + k → I j u → b j u = .ok v → I (j + 1) v) → I (i + k) t
  | 0, i, s, t, h, h0, _ => by simp only [loopR, Except.ok.injEq] at h; subst h; exact h0
  | k + 1, i, s, t, h, h0, hb => by
    simp only [loopR] at h
    cases hq : b i s with
    | error e => rw [hq] at h; simp at h
    | ok v =>
      rw [hq] at h
      have := loopR_keep I (k := k) (i := i + 1) h (hb i s v (Nat.le_refl _) (by omega) h0 hq) (fun j u v h1 h2 => hb j u v (by omega) (by omega))
      rw [show i + 1 + k = i + (k + 1) by omega] at this
      exact this
end Go.Ab

namespace Go.Ab
open Go Go.Proofs
theorem laws_heldSpareS_k (a : List Spare) (k : Int) (h0 : 0 ≤ k) (hk : k ≤ 1152921504606846976) (h1 : a.length < 1099511627776) : laws_heldSpareS a k < 0 ∨ (0 ≤ laws_heldSpareS a k ∧ laws_heldSpareS a k ≤ k + 3 * a.length) := by
  unfold laws_heldSpareS
  split
  · rename_i e he
    obtain ⟨j, t, g1, g2, g3⟩ := loopR_error he
    simp only [laws_heldSpareS_b1, Bool.cond_eq_ite] at g3
    left
    repeat' split at g3
    all_goals first | (cases g3; done) | (simp only [Except.error.injEq] at g3; omega) | (simp at g3)
  · rename_i s hs
    right
    have := loopR_keep (fun i s => 0 ≤ s ∧ s ≤ k + 3 * (i : Int)) hs (by simp; omega) (by
      intro j u v g1 g2 g3 g4
      simp only [laws_heldSpareS_b1, Bool.cond_eq_ite] at g4
      repeat' split at g4
      all_goals first | (cases g4; done) | (simp only [Except.ok.injEq, IntKind.wrap_i64] at g4; omega) | (simp at g4))
    simp at this
    omega
end Go.Ab

namespace Go.Ab
open Go Go.Proofs
theorem laws_heldStore_DD : DOk Try.prog (DD [(100, dP D_laws_heldEntryS), (99, dP D_laws_heldSpareS)]) := DD_cons D_laws_heldEntryS_ok.e <| DD_cons D_laws_heldSpareS_ok.e <| DD_nil _
def laws_heldStore (a0 : Store) (a1 : Int) : Int :=
  (bif decide ((laws_heldSpareS a0.Spares a1) < 0) then (-1) else (bif decide ((laws_heldEntryS a0.Entries (laws_heldSpareS a0.Spares a1)) < 0) then (-1) else (laws_heldEntryS a0.Entries (laws_heldSpareS a0.Spares a1))))
theorem laws_heldStore_den (a0 : Store) (a1 : Int) (hp0 : 0 ≤ a1) (hp1 : a1 ≤ 1073741824) (hp2 : a0.Spares.length < 1099511627776) (hp3 : a0.Entries.length < 1099511627776) : Den Try.prog 38 [.agg (eStore a0), .int .i64 a1] (.int .i64 (laws_heldStore a0 a1)) := by
  generalize hR : laws_heldStore a0 a1 = r
  unfold laws_heldStore at hR
  refine den_intro G_ok Try.func38 (by kernel_rfl) rfl Try.ntmps38 (by rw [Try.results38]) (by simp) rfl ?_
  intro c hL hc hk
  obtain ⟨hL0, hL1, _⟩ := hL
  have hw0 : bwStore a0 := Store_lens a0 hL0
  clear hL0 hL1
  simp only [pars, Nat.zero_add]
  have hk1 := laws_heldSpareS_k a0.Spares a1 hp0 (by omega) hp2
  refine AWP.seq ?_
  refine AWP.regS G_ok laws_heldStore_DD hc (by kernel_rfl) (fun K hK => ?_); simp only [ea, gv, sv, laws_markEntryS_sub, laws_markSpareS_sub, D_laws_heldEntryS, D_laws_heldSpareS, reduceCtorEq, reduceIte, Nat.reduceBEq, Nat.reduceAdd, Nat.reduceEqDiff, Nat.reduceLT, Nat.reduceLeDiff, Nat.reduceMul, Nat.reduceSub, BEq.rfl, beq_self_eq_true, Int.reduceToNat]
  (refine hK _ ?_)
  clear hK K
  refine AWP.seq ?_
  refine AWP.regS G_ok laws_heldStore_DD hc (by kernel_rfl) (fun K hK => ?_); simp only [ea, gv, sv, laws_markEntryS_sub, laws_markSpareS_sub, D_laws_heldEntryS, D_laws_heldSpareS, reduceCtorEq, reduceIte, Nat.reduceBEq, Nat.reduceAdd, Nat.reduceEqDiff, Nat.reduceLT, Nat.reduceLeDiff, Nat.reduceMul, Nat.reduceSub, BEq.rfl, beq_self_eq_true, Int.reduceToNat]
  (refine ⟨by (omega), hK _ ?_⟩)
  clear hK K
  refine AWP.seq ?_
  refine AWP.seq ?_
  refine AWP.regS G_ok laws_heldStore_DD hc (by kernel_rfl) (fun K hK => ?_); simp only [ea, gv, sv, laws_markEntryS_sub, laws_markSpareS_sub, D_laws_heldEntryS, D_laws_heldSpareS, reduceCtorEq, reduceIte, Nat.reduceBEq, Nat.reduceAdd, Nat.reduceEqDiff, Nat.reduceLT, Nat.reduceLeDiff, Nat.reduceMul, Nat.reduceSub, BEq.rfl, beq_self_eq_true, Int.reduceToNat]
  (refine hK _ ?_)
  clear hK K
  refine AWP.cond rfl (fun hb => ?_) (fun hb => ?_)
  · (simp only [hb, cond_true] at hR)
    refine AWP.seq ?_
    refine AWP.regS G_ok laws_heldStore_DD hc (by kernel_rfl) (fun K hK => ?_); simp only [ea, gv, sv, laws_markEntryS_sub, laws_markSpareS_sub, D_laws_heldEntryS, D_laws_heldSpareS, reduceCtorEq, reduceIte, Nat.reduceBEq, Nat.reduceAdd, Nat.reduceEqDiff, Nat.reduceLT, Nat.reduceLeDiff, Nat.reduceMul, Nat.reduceSub, BEq.rfl, beq_self_eq_true, Int.reduceToNat]
    (refine hK _ ?_)
    clear hK K
    refine AWP.ret ?_
    subst hR
    (simp only [en, si, ea, gv, sv, hk, reduceCtorEq, reduceIte, Nat.reduceBEq, Nat.reduceAdd, Nat.reduceEqDiff, Nat.reduceLT, Nat.reduceLeDiff, Nat.reduceMul, Nat.reduceSub, BEq.rfl, beq_self_eq_true, Int.reduceToNat]; done)
  · (simp only [hb, cond_false] at hR)
    refine AWP.skip ?_
    refine AWP.seq ?_
    refine AWP.regS G_ok laws_heldStore_DD hc (by kernel_rfl) (fun K hK => ?_); simp only [ea, gv, sv, laws_markEntryS_sub, laws_markSpareS_sub, D_laws_heldEntryS, D_laws_heldSpareS, reduceCtorEq, reduceIte, Nat.reduceBEq, Nat.reduceAdd, Nat.reduceEqDiff, Nat.reduceLT, Nat.reduceLeDiff, Nat.reduceMul, Nat.reduceSub, BEq.rfl, beq_self_eq_true, Int.reduceToNat]
    (refine ⟨by ((simp only [ob, ln, bdv, laws_markEntryS_len, laws_markSpareS_len, sv] at *; omega)), hK _ ?_⟩)
    clear hK K
    refine AWP.seq ?_
    refine AWP.seq ?_
    refine AWP.regS G_ok laws_heldStore_DD hc (by kernel_rfl) (fun K hK => ?_); simp only [ea, gv, sv, laws_markEntryS_sub, laws_markSpareS_sub, D_laws_heldEntryS, D_laws_heldSpareS, reduceCtorEq, reduceIte, Nat.reduceBEq, Nat.reduceAdd, Nat.reduceEqDiff, Nat.reduceLT, Nat.reduceLeDiff, Nat.reduceMul, Nat.reduceSub, BEq.rfl, beq_self_eq_true, Int.reduceToNat]
    (refine hK _ ?_)
    clear hK K
    refine AWP.cond rfl (fun hb => ?_) (fun hb => ?_)
    · (simp only [hb, cond_true] at hR)
      refine AWP.seq ?_
      refine AWP.regS G_ok laws_heldStore_DD hc (by kernel_rfl) (fun K hK => ?_); simp only [ea, gv, sv, laws_markEntryS_sub, laws_markSpareS_sub, D_laws_heldEntryS, D_laws_heldSpareS, reduceCtorEq, reduceIte, Nat.reduceBEq, Nat.reduceAdd, Nat.reduceEqDiff, Nat.reduceLT, Nat.reduceLeDiff, Nat.reduceMul, Nat.reduceSub, BEq.rfl, beq_self_eq_true, Int.reduceToNat]
      (refine hK _ ?_)
      clear hK K
      refine AWP.ret ?_
      subst hR
      (simp only [en, si, ea, gv, sv, hk, reduceCtorEq, reduceIte, Nat.reduceBEq, Nat.reduceAdd, Nat.reduceEqDiff, Nat.reduceLT, Nat.reduceLeDiff, Nat.reduceMul, Nat.reduceSub, BEq.rfl, beq_self_eq_true, Int.reduceToNat]; done)
    · (simp only [hb, cond_false] at hR)
      refine AWP.skip ?_
      refine AWP.seq ?_
      refine AWP.regS G_ok laws_heldStore_DD hc (by kernel_rfl) (fun K hK => ?_); simp only [ea, gv, sv, laws_markEntryS_sub, laws_markSpareS_sub, D_laws_heldEntryS, D_laws_heldSpareS, reduceCtorEq, reduceIte, Nat.reduceBEq, Nat.reduceAdd, Nat.reduceEqDiff, Nat.reduceLT, Nat.reduceLeDiff, Nat.reduceMul, Nat.reduceSub, BEq.rfl, beq_self_eq_true, Int.reduceToNat]
      (refine hK _ ?_)
      clear hK K
      refine AWP.ret ?_
      subst hR
      (simp only [en, si, ea, gv, sv, hk, reduceCtorEq, reduceIte, Nat.reduceBEq, Nat.reduceAdd, Nat.reduceEqDiff, Nat.reduceLT, Nat.reduceLeDiff, Nat.reduceMul, Nat.reduceSub, BEq.rfl, beq_self_eq_true, Int.reduceToNat]; done)
def D_laws_heldStore : DF
  | [x0, x1] => some (.int .i64 (laws_heldStore (rdG dStore x0) (rdI x1)), false, [wG eStore dStore x0, wI .i64 x1, 0 ≤ (rdI x1), (rdI x1) ≤ 1073741824, (rdG dStore x0).Spares.length < 1099511627776, (rdG dStore x0).Entries.length < 1099511627776])
  | _ => none
theorem D_laws_heldStore_ok : OkD Try.prog 38 D_laws_heldStore := by
  intro xs r z ob h ho
  unfold D_laws_heldStore at h
  split at h
  · simp only [Option.some.injEq, Prod.mk.injEq] at h
    obtain ⟨rfl, rfl, rfl⟩ := h
    obtain ⟨h0, h1, hp0, hp1, hp2, hp3, _⟩ := ho
    exact Den.sim (laws_heldStore_den _ _ hp0 hp1 hp2 hp3) (simOL_cons (wG_sim h0).1 <| simOL_cons (wI_sim h1).1 <| trivial) (noIdL_cons (wG_sim h0).2 <| noIdL_cons (wI_sim h1).2 <| rfl) rfl
  · cases h
end Go.Ab

namespace Go.Ab
open Go Go.Proofs
theorem laws_markStore_k (a : Store) (k : Int) (h0 : 0 ≤ k) (h1 : k ≤ 1073741824) (b1 : a.Spares.length < 1099511627776) (b2 : a.Entries.length < 1099511627776) : (laws_markStore a k).1 = k + 3 * a.Spares.length + 3 * a.Entries.length := by
  unfold laws_markStore
  simp only
  rw [laws_markEntryS_k _ _ (by rw [laws_markSpareS_k _ _ (by omega) (by omega) b1]; omega) (by rw [laws_markSpareS_k _ _ (by omega) (by omega) b1]; omega) b2, laws_markSpareS_k _ _ (by omega) (by omega) b1]
theorem laws_markStore_len (a : Store) (k : Int) : (laws_markStore a k).2.Spares.length = a.Spares.length ∧ (laws_markStore a k).2.Entries.length = a.Entries.length := by
  unfold laws_markStore
  simp only [laws_markSpareS_len, laws_markEntryS_len, and_self]
theorem laws_markStore_subS (a : Store) (k : Int) : subL (laws_markStore a k).2.Spares 0 a.Spares.length = (laws_markStore a k).2.Spares := by
  rw [← (laws_markStore_len a k).1]; exact subL_all _
theorem laws_markStore_subE (a : Store) (k : Int) : subL (laws_markStore a k).2.Entries 0 a.Entries.length = (laws_markStore a k).2.Entries := by
  rw [← (laws_markStore_len a k).2]; exact subL_all _
theorem laws_heldStore_mark (a : Store) (k : Int) (h0 : 0 ≤ k) (h1 : k ≤ 1073741824) (b1 : a.Spares.length < 1099511627776) (b2 : a.Entries.length < 1099511627776) : laws_heldStore (laws_markStore a k).2 k = (laws_markStore a k).1 ∧ ¬ (laws_markStore a k).1 < 0 := by
  have hk := laws_markStore_k a k h0 h1 b1 b2
  refine ⟨?_, by omega⟩
  rw [hk]
  have e1 := laws_heldSpareS_mark a.Spares k h0 (by omega) b1
  have e3 := laws_markSpareS_k a.Spares k h0 (by omega) b1
  have e2 := laws_heldEntryS_mark a.Entries (laws_markSpareS a.Spares k).1 (by omega) (by omega) b2
  have e4 := laws_markEntryS_k a.Entries (laws_markSpareS a.Spares k).1 (by omega) (by omega) b2
  unfold laws_heldStore laws_markStore
  simp only [e1.1, e2.1]
  rw [decide_eq_false e1.2, decide_eq_false e2.2]
  simp only [cond_false]
  omega
end Go.Ab
