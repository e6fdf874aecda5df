/- A part of a proof: walks of functions and lemmas of our own. No conditions. -/
import Derived.Test.YtadigfcajlefkaaGreatDoorTAj
import Derived.Test.YtadigfcajlefkaaGreatDoorTAm
import Derived.Test.YtadigfcajlefkaaGreatDoorTAk
import Derived.Test.YtadigfcajlefkaaGreatDoorTAh
import Derived.Test.YtadigfcajlefkaaGreatDoorTAl
import Derived.Test.YtadigfcajlefkaaGreatDoorTAi
import Derived.Test.YtadigfcajlefkaaGreatDoorRows
set_option linter.unusedSectionVars false
set_option linter.unusedVariables false
set_option linter.unusedSimpArgs false
namespace Go.Ab
open Go Go.Proofs
theorem impl_dayOf_DD : DOk Tryz.prog (DD [(108, dP D_impl_monthDays), (152, dP D_impl_firstDay)]) := DD_cons D_impl_monthDays_ok.e <| DD_cons D_impl_firstDay_ok.e <| DD_nil _
def impl_dayOf_b1 (a0 : Int) (a1 : Int) (a2 : Int) (i1 : Nat) (s1 : Int) : Except (Int) (Int) :=
  .ok (IntKind.wrap .i64 (s1 + (impl_monthDays a0 (i1 : Int))))
def impl_dayOf (a0 : Int) (a1 : Int) (a2 : Int) : Int :=
  (match loopR (impl_dayOf_b1 a0 a1 a2) ((a1).toNat - 1) 1 (IntKind.wrap .i64 ((IntKind.wrap .i64 ((impl_firstDay a0) + a2)) - 1)) with | .error e => e | .ok s1 => s1)
set_option maxHeartbeats 400000 in
set_option maxRecDepth 20000 in
theorem impl_dayOf_den (a0 : Int) (a1 : Int) (a2 : Int) (hp0 : 2000 ≤ a0) (hp1 : a0 ≤ 2273) (hp2 : 1 ≤ a1) (hp3 : a1 ≤ 12) (hp4 : 1 ≤ a2) (hp5 : a2 ≤ 31) : Den Tryz.prog 109 [.int .i64 a0, .int .i64 a1, .int .i64 a2] (.int .i64 (impl_dayOf a0 a1 a2)) := by
  generalize hR : impl_dayOf a0 a1 a2 = r
  unfold impl_dayOf at hR
  refine den_intro G_ok Tryz.func109 (by kernel_rfl) rfl Tryz.ntmps109 (by rw [Tryz.results109]) (by simp) rfl ?_
  intro c hL hc hk
  clear hL
  simp only [pars, Nat.zero_add]
  have hf9 := impl_firstDay_rng a0 hp0 hp1
  refine AWP.seq ?_
  refine AWP.regS G_ok impl_dayOf_DD hc (by kernel_rfl) (fun K hK => ?_); simp only [ea, gv, sv, D_impl_monthDays, D_impl_firstDay, reduceCtorEq, reduceIte, Nat.reduceBEq, Nat.reduceAdd, Nat.reduceEqDiff, Nat.reduceLT, Nat.reduceLeDiff, Nat.reduceMul, Nat.reduceSub, BEq.rfl, beq_self_eq_true, Int.reduceToNat]
  (refine hK _ ?_)
  clear hK K
  refine AWP.seq ?_
  refine AWP.regS G_ok impl_dayOf_DD hc (by kernel_rfl) (fun K hK => ?_); simp only [ea, gv, sv, D_impl_monthDays, D_impl_firstDay, reduceCtorEq, reduceIte, Nat.reduceBEq, Nat.reduceAdd, Nat.reduceEqDiff, Nat.reduceLT, Nat.reduceLeDiff, Nat.reduceMul, Nat.reduceSub, BEq.rfl, beq_self_eq_true, Int.reduceToNat]
  (refine ⟨by (trivial), hK _ ?_⟩)
  clear hK K
  refine AWP.seq ?_
  refine AWP.seq ?_
  refine AWP.regS G_ok impl_dayOf_DD hc (by kernel_rfl) (fun K hK => ?_); simp only [ea, gv, sv, D_impl_monthDays, D_impl_firstDay, reduceCtorEq, reduceIte, Nat.reduceBEq, Nat.reduceAdd, Nat.reduceEqDiff, Nat.reduceLT, Nat.reduceLeDiff, Nat.reduceMul, Nat.reduceSub, BEq.rfl, beq_self_eq_true, Int.reduceToNat]
  (refine hK _ ?_)
  clear hK K
  refine AWP.block ?_
  generalize hz1 : loopR (impl_dayOf_b1 a0 a1 a2) ((a1).toNat - 1) 1 (IntKind.wrap .i64 ((IntKind.wrap .i64 ((impl_firstDay a0) + a2)) - 1)) = z1 at hR
  refine AWP.range (impl_dayOf_b1 a0 a1 a2) (fun i1 s1 => ⟨[(0, .int .i64 a0), (1, .int .i64 a1), (7, .int .i64 s1), (8, .int .i64 (i1 : Int))], []⟩) (fun i1 s1 => 1 ≤ i1 ∧ 0 ≤ s1 ∧ s1 ≤ 30 + 366 * 273 + 31 * ((i1 : Int) - 1) ∧ 1 ≤ i1) ((a1).toNat) 1 (IntKind.wrap .i64 ((IntKind.wrap .i64 ((impl_firstDay a0) + a2)) - 1)) [] hz1 (by (omega)) (by ((and_intros <;> simp only [ob, ln] at * <;> omega))) (by (simp only [si, ea, gv, sv, hk, reduceCtorEq, reduceIte, Nat.reduceBEq, Nat.reduceAdd, Nat.reduceEqDiff, Nat.reduceLT, Nat.reduceLeDiff, Nat.reduceMul, Nat.reduceSub, BEq.rfl, beq_self_eq_true, Int.reduceToNat]; trivial)) ?_
  clear hz1
  intro i1 s1 hi1 hW1 hz1
  refine AWP.seq ?_
  refine AWP.seq ?_
  refine AWP.regS G_ok impl_dayOf_DD hc (by kernel_rfl) (fun K hK => ?_); simp only [ea, gv, sv, D_impl_monthDays, D_impl_firstDay, reduceCtorEq, reduceIte, Nat.reduceBEq, Nat.reduceAdd, Nat.reduceEqDiff, Nat.reduceLT, Nat.reduceLeDiff, Nat.reduceMul, Nat.reduceSub, BEq.rfl, beq_self_eq_true, Int.reduceToNat]
  (refine hK _ ?_)
  clear hK K
  refine AWP.cond rfl (fun hb => ?_) (fun hb => ?_)
  · have hlt1 : i1 < (a1).toNat := by ((simp only [ob, ln, bdv, sv] at *; omega))
    rw [loopR_lt hlt1] at hz1; simp only [impl_dayOf_b1] at hz1
    refine AWP.skip ?_
    refine AWP.seq ?_
    refine AWP.block ?_
    refine AWP.regS G_ok impl_dayOf_DD hc (by kernel_rfl) (fun K hK => ?_); simp only [ea, gv, sv, D_impl_monthDays, D_impl_firstDay, reduceCtorEq, reduceIte, Nat.reduceBEq, Nat.reduceAdd, Nat.reduceEqDiff, Nat.reduceLT, Nat.reduceLeDiff, Nat.reduceMul, Nat.reduceSub, BEq.rfl, beq_self_eq_true, Int.reduceToNat]
    (refine ⟨by (omega), hK _ ?_⟩)
    clear hK K
    refine AWP.regS G_ok impl_dayOf_DD hc (by kernel_rfl) (fun K hK => ?_); simp only [ea, gv, sv, D_impl_monthDays, D_impl_firstDay, reduceCtorEq, reduceIte, Nat.reduceBEq, Nat.reduceAdd, Nat.reduceEqDiff, Nat.reduceLT, Nat.reduceLeDiff, Nat.reduceMul, Nat.reduceSub, BEq.rfl, beq_self_eq_true, Int.reduceToNat]
    (refine hK _ ?_)
    clear hK K
    exact ⟨_, [], hlt1, by (have h9 := monthDays_ge a0 (i1 : Int) (by omega) (by simp only [ob] at *; omega); simp only [ob, ln] at *; omega), hz1, by (simp only [si, ea, gv, sv, hk, reduceCtorEq, reduceIte, Nat.reduceBEq, Nat.reduceAdd, Nat.reduceEqDiff, Nat.reduceLT, Nat.reduceLeDiff, Nat.reduceMul, Nat.reduceSub, BEq.rfl, beq_self_eq_true, Int.reduceToNat]; (and_intros <;> first | trivial | (rw [IntKind.wrap_i64]; omega)))⟩
  · obtain rfl : i1 = (a1).toNat := by ((simp only [ob, ln, bdv, sv] at *; omega))
    rw [loopR_ge (Nat.le_refl _)] at hz1; subst hz1; dsimp only at hR
    refine AWP.exit ?_; refine exitTo_here ?_
    refine AWP.seq ?_
    refine AWP.regS G_ok impl_dayOf_DD hc (by kernel_rfl) (fun K hK => ?_); simp only [ea, gv, sv, D_impl_monthDays, D_impl_firstDay, reduceCtorEq, reduceIte, Nat.reduceBEq, Nat.reduceAdd, Nat.reduceEqDiff, Nat.reduceLT, Nat.reduceLeDiff, Nat.reduceMul, Nat.reduceSub, BEq.rfl, beq_self_eq_true, Int.reduceToNat]
    (refine hK _ ?_)
    clear hK K
    refine AWP.ret ?_
    subst hR
    (simp only [en, si, ea, gv, sv, hk, reduceCtorEq, reduceIte, Nat.reduceBEq, Nat.reduceAdd, Nat.reduceEqDiff, Nat.reduceLT, Nat.reduceLeDiff, Nat.reduceMul, Nat.reduceSub, BEq.rfl, beq_self_eq_true, Int.reduceToNat]; done)
def D_impl_dayOf : DF
  | [x0, x1, x2] => some (.int .i64 (impl_dayOf (rdI x0) (rdI x1) (rdI x2)), false, [wI .i64 x0, wI .i64 x1, wI .i64 x2, 2000 ≤ (rdI x0), (rdI x0) ≤ 2273, 1 ≤ (rdI x1), (rdI x1) ≤ 12, 1 ≤ (rdI x2), (rdI x2) ≤ 31])
  | _ => none
theorem D_impl_dayOf_ok : OkD Tryz.prog 109 D_impl_dayOf := by
  intro xs r z ob h ho
  unfold D_impl_dayOf at h
  split at h
  · simp only [Option.some.injEq, Prod.mk.injEq] at h
    obtain ⟨rfl, rfl, rfl⟩ := h
    obtain ⟨h0, h1, h2, hp0, hp1, hp2, hp3, hp4, hp5, _⟩ := ho
    exact Den.sim (impl_dayOf_den _ _ _ hp0 hp1 hp2 hp3 hp4 hp5) (simOL_cons (wI_sim h0).1 <| simOL_cons (wI_sim h1).1 <| simOL_cons (wI_sim h2).1 <| trivial) (noIdL_cons (wI_sim h0).2 <| noIdL_cons (wI_sim h1).2 <| noIdL_cons (wI_sim h2).2 <| rfl) rfl
  · cases h
end Go.Ab

namespace Go.Ab
open Go Go.Proofs
theorem impl_DayOf_DD : DOk Tryz.prog (DD [(106, dP D_impl_isYear), (107, dP D_impl_isMonth), (108, dP D_impl_monthDays), (109, dP D_impl_dayOf), (42, dP D_impl_isDay), (68, dP D_impl_within)]) := DD_cons D_impl_isYear_ok.e <| DD_cons D_impl_isMonth_ok.e <| DD_cons D_impl_monthDays_ok.e <| DD_cons D_impl_dayOf_ok.e <| DD_cons D_impl_isDay_ok.e <| DD_cons D_impl_within_ok.e <| DD_nil _
def impl_DayOf (a0 : Int) (a1 : Int) (a2 : Int) : (Int × Int) :=
  (bif ((((!(impl_isYear a0)) || (!(impl_isMonth a1))) || (!(impl_within a2 1 (impl_monthDays a0 a1)))) || (!(impl_isDay (impl_dayOf a0 a1 a2)))) then (0, 2) else ((impl_dayOf a0 a1 a2), 0))
theorem impl_DayOf_den (a0 : Int) (a1 : Int) (a2 : Int)  : Den Tryz.prog 64 [.int .i64 a0, .int .i64 a1, .int .i64 a2] (.tup [.int .i64 ((impl_DayOf a0 a1 a2).1), .int .i64 ((impl_DayOf a0 a1 a2).2)]) := by
  generalize hR : impl_DayOf a0 a1 a2 = r
  unfold impl_DayOf at hR
  refine den_intro G_ok Tryz.func64 (by kernel_rfl) rfl Tryz.ntmps64 (by rw [Tryz.results64]) (by simp) rfl ?_
  intro c hL hc hk
  clear hL
  simp only [pars, Nat.zero_add]
  refine AWP.seq ?_
  refine AWP.regS G_ok impl_DayOf_DD hc (by kernel_rfl) (fun K hK => ?_); simp only [ea, gv, sv, D_impl_isYear, D_impl_isMonth, D_impl_monthDays, D_impl_dayOf, D_impl_isDay, D_impl_within, reduceCtorEq, reduceIte, Nat.reduceBEq, Nat.reduceAdd, Nat.reduceEqDiff, Nat.reduceLT, Nat.reduceLeDiff, Nat.reduceMul, Nat.reduceSub, BEq.rfl, beq_self_eq_true, Int.reduceToNat]
  (refine hK _ ?_)
  clear hK K
  refine AWP.seq ?_
  refine AWP.seq ?_
  refine AWP.regS G_ok impl_DayOf_DD hc (by kernel_rfl) (fun K hK => ?_); simp only [ea, gv, sv, D_impl_isYear, D_impl_isMonth, D_impl_monthDays, D_impl_dayOf, D_impl_isDay, D_impl_within, reduceCtorEq, reduceIte, Nat.reduceBEq, Nat.reduceAdd, Nat.reduceEqDiff, Nat.reduceLT, Nat.reduceLeDiff, Nat.reduceMul, Nat.reduceSub, BEq.rfl, beq_self_eq_true, Int.reduceToNat]
  (refine ⟨by ((have h9 := monthDays_ge a0 a1; simp only [impl_isYear, impl_isMonth, impl_within, Bool.not_or, Bool.not_not, Bool.and_eq_true, decide_eq_true_eq]; refine ⟨?_, ?_⟩ <;> intro h <;> omega)), hK _ ?_⟩)
  clear hK K
  refine AWP.cond rfl (fun hb => ?_) (fun hb => ?_)
  · (simp only [hb, cond_true] at hR)
    refine AWP.seq ?_
    refine AWP.regS G_ok impl_DayOf_DD hc (by kernel_rfl) (fun K hK => ?_); simp only [ea, gv, sv, D_impl_isYear, D_impl_isMonth, D_impl_monthDays, D_impl_dayOf, D_impl_isDay, D_impl_within, reduceCtorEq, reduceIte, Nat.reduceBEq, Nat.reduceAdd, Nat.reduceEqDiff, Nat.reduceLT, Nat.reduceLeDiff, Nat.reduceMul, Nat.reduceSub, BEq.rfl, beq_self_eq_true, Int.reduceToNat]
    (refine hK _ ?_)
    clear hK K
    refine AWP.ret ?_
    subst hR
    (simp only [en, si, ea, gv, sv, hk, reduceCtorEq, reduceIte, Nat.reduceBEq, Nat.reduceAdd, Nat.reduceEqDiff, Nat.reduceLT, Nat.reduceLeDiff, Nat.reduceMul, Nat.reduceSub, BEq.rfl, beq_self_eq_true, Int.reduceToNat]; done)
  · (simp only [hb, cond_false] at hR)
    refine AWP.skip ?_
    refine AWP.seq ?_
    refine AWP.regS G_ok impl_DayOf_DD hc (by kernel_rfl) (fun K hK => ?_); simp only [ea, gv, sv, D_impl_isYear, D_impl_isMonth, D_impl_monthDays, D_impl_dayOf, D_impl_isDay, D_impl_within, reduceCtorEq, reduceIte, Nat.reduceBEq, Nat.reduceAdd, Nat.reduceEqDiff, Nat.reduceLT, Nat.reduceLeDiff, Nat.reduceMul, Nat.reduceSub, BEq.rfl, beq_self_eq_true, Int.reduceToNat]
    (refine ⟨by ((have h9 := monthDays_ge a0 a1; have hb8 := hb; simp [impl_isYear, impl_isMonth, impl_within] at hb8; omega)), hK _ ?_⟩)
    clear hK K
    refine AWP.ret ?_
    subst hR
    (simp only [en, si, ea, gv, sv, hk, reduceCtorEq, reduceIte, Nat.reduceBEq, Nat.reduceAdd, Nat.reduceEqDiff, Nat.reduceLT, Nat.reduceLeDiff, Nat.reduceMul, Nat.reduceSub, BEq.rfl, beq_self_eq_true, Int.reduceToNat]; done)
def D_impl_DayOf : DF
  | [x0, x1, x2] => some (.tup [.int .i64 ((impl_DayOf (rdI x0) (rdI x1) (rdI x2)).1), .int .i64 ((impl_DayOf (rdI x0) (rdI x1) (rdI x2)).2)], false, [wI .i64 x0, wI .i64 x1, wI .i64 x2])
  | _ => none
theorem D_impl_DayOf_ok : OkD Tryz.prog 64 D_impl_DayOf := by
  intro xs r z ob h ho
  unfold D_impl_DayOf at h
  split at h
  · simp only [Option.some.injEq, Prod.mk.injEq] at h
    obtain ⟨rfl, rfl, rfl⟩ := h
    obtain ⟨h0, h1, h2, _⟩ := ho
    exact Den.sim (impl_DayOf_den _ _ _ ) (simOL_cons (wI_sim h0).1 <| simOL_cons (wI_sim h1).1 <| simOL_cons (wI_sim h2).1 <| trivial) (noIdL_cons (wI_sim h0).2 <| noIdL_cons (wI_sim h1).2 <| noIdL_cons (wI_sim h2).2 <| rfl) rfl
  · cases h
end Go.Ab

namespace Go.Ab
open Go Go.Proofs
theorem impl_DateText_len (a : Int) : (impl_DateText a).length ≤ 10000 := by
  unfold impl_DateText impl_isDay impl_within
  by_cases h : 0 ≤ a ∧ a ≤ 99999
  · have hr := impl_dateOf_rng a h.1 h.2
    have l1 := impl_Decimal_len (impl_dateOf a).1
    have l2 := impl_padded_len (impl_dateOf a).2.1 (by omega) (by omega)
    have l3 := impl_padded_len (impl_dateOf a).2.2 (by omega) (by omega)
    simp only [h.1, h.2, decide_true, Bool.and_self, Bool.not_true, cond_false, List.length_append, List.length_cons, List.length_nil]
    omega
  · have : (decide (0 ≤ a) && decide (a ≤ 99999)) = false := by simpa using h
    simp [this]
end Go.Ab

namespace Go.Ab
open Go Go.Proofs
theorem strings_Split_len (a b : List UInt8) (h : a.length ≤ 1048576) : (strings_Split a b).length ≤ 1048577 ∧ ∀ x ∈ strings_Split a b, x.length ≤ 1048576 := by
  obtain ⟨h1, h2⟩ := splitC_len (b.getD 0 0) a
  exact ⟨by unfold strings_Split; omega, fun x hx => by have := h2 x hx; omega⟩
end Go.Ab

namespace Go.Ab
open Go Go.Proofs
theorem impl_ReadDate_DD : DOk Tryz.prog (DD [(32, dP D_impl_DateText), (62, dP D_strings_Split), (63, dP D_impl_digitsOf), (64, dP D_impl_DayOf)]) := DD_cons D_impl_DateText_ok.e <| DD_cons D_strings_Split_ok.e <| DD_cons D_impl_digitsOf_ok.e <| DD_cons D_impl_DayOf_ok.e <| DD_nil _
def impl_ReadDate (a0 : (List UInt8)) : (Int × Bool) :=
  (bif (((strings_Split a0 [45]).length : Int) != 3) then (0, false) else (bif (((((!((impl_digitsOf ((strings_Split a0 [45]).getD 0 default)).2)) || (!((impl_digitsOf ((strings_Split a0 [45]).getD 1 default)).2))) || (!((impl_digitsOf ((strings_Split a0 [45]).getD 2 default)).2))) || (((impl_DayOf ((impl_digitsOf ((strings_Split a0 [45]).getD 0 default)).1) ((impl_digitsOf ((strings_Split a0 [45]).getD 1 default)).1) ((impl_digitsOf ((strings_Split a0 [45]).getD 2 default)).1)).2) != 0)) || ((impl_DateText ((impl_DayOf ((impl_digitsOf ((strings_Split a0 [45]).getD 0 default)).1) ((impl_digitsOf ((strings_Split a0 [45]).getD 1 default)).1) ((impl_digitsOf ((strings_Split a0 [45]).getD 2 default)).1)).1)) != a0)) then (0, false) else ((impl_DayOf ((impl_digitsOf ((strings_Split a0 [45]).getD 0 default)).1) ((impl_digitsOf ((strings_Split a0 [45]).getD 1 default)).1) ((impl_digitsOf ((strings_Split a0 [45]).getD 2 default)).1)).1, true)))
theorem impl_ReadDate_den (a0 : (List UInt8)) (hb0 : a0.length < 1099511627776) (hp0 : a0.length ≤ 1048576) : Den Tryz.prog 29 [.str a0] (.tup [.int .i64 ((impl_ReadDate a0).1), .bool ((impl_ReadDate a0).2)]) := by
  generalize hR : impl_ReadDate a0 = r
  unfold impl_ReadDate at hR
  refine den_intro G_ok Tryz.func29 (by kernel_rfl) rfl Tryz.ntmps29 (by rw [Tryz.results29]) (by simp) rfl ?_
  intro c hL hc hk
  obtain ⟨hL0, _⟩ := hL
  have hw0 : a0.length < 9223372036854775808 := Nat.lt_succ_of_le hL0
  clear hL0
  simp only [pars, Nat.zero_add]
  have hs9 := strings_Split_len a0 [45] (by omega)
  refine AWP.seq ?_
  refine AWP.regS G_ok impl_ReadDate_DD hc (by kernel_rfl) (fun K hK => ?_); simp only [ea, gv, sv, D_impl_DateText, D_strings_Split, D_impl_digitsOf, D_impl_DayOf, reduceCtorEq, reduceIte, Nat.reduceBEq, Nat.reduceAdd, Nat.reduceEqDiff, Nat.reduceLT, Nat.reduceLeDiff, Nat.reduceMul, Nat.reduceSub, BEq.rfl, beq_self_eq_true, Int.reduceToNat]
  (refine hK _ ?_)
  clear hK K
  refine AWP.seq ?_
  refine AWP.regS G_ok impl_ReadDate_DD hc (by kernel_rfl) (fun K hK => ?_); simp only [ea, gv, sv, D_impl_DateText, D_strings_Split, D_impl_digitsOf, D_impl_DayOf, reduceCtorEq, reduceIte, Nat.reduceBEq, Nat.reduceAdd, Nat.reduceEqDiff, Nat.reduceLT, Nat.reduceLeDiff, Nat.reduceMul, Nat.reduceSub, BEq.rfl, beq_self_eq_true, Int.reduceToNat]
  (refine ⟨by (trivial), hK _ ?_⟩)
  clear hK K
  refine AWP.seq ?_
  refine AWP.seq ?_
  refine AWP.regS G_ok impl_ReadDate_DD hc (by kernel_rfl) (fun K hK => ?_); simp only [ea, gv, sv, D_impl_DateText, D_strings_Split, D_impl_digitsOf, D_impl_DayOf, reduceCtorEq, reduceIte, Nat.reduceBEq, Nat.reduceAdd, Nat.reduceEqDiff, Nat.reduceLT, Nat.reduceLeDiff, Nat.reduceMul, Nat.reduceSub, BEq.rfl, beq_self_eq_true, Int.reduceToNat]
  (refine hK _ ?_)
  clear hK K
  refine AWP.cond rfl (fun hb => ?_) (fun hb => ?_)
  · (simp only [hb, cond_true] at hR)
    refine AWP.seq ?_
    refine AWP.regS G_ok impl_ReadDate_DD hc (by kernel_rfl) (fun K hK => ?_); simp only [ea, gv, sv, D_impl_DateText, D_strings_Split, D_impl_digitsOf, D_impl_DayOf, reduceCtorEq, reduceIte, Nat.reduceBEq, Nat.reduceAdd, Nat.reduceEqDiff, Nat.reduceLT, Nat.reduceLeDiff, Nat.reduceMul, Nat.reduceSub, BEq.rfl, beq_self_eq_true, Int.reduceToNat]
    (refine hK _ ?_)
    clear hK K
    refine AWP.ret ?_
    subst hR
    (simp only [en, si, ea, gv, sv, hk, reduceCtorEq, reduceIte, Nat.reduceBEq, Nat.reduceAdd, Nat.reduceEqDiff, Nat.reduceLT, Nat.reduceLeDiff, Nat.reduceMul, Nat.reduceSub, BEq.rfl, beq_self_eq_true, Int.reduceToNat]; done)
  · (simp only [hb, cond_false] at hR)
    refine AWP.skip ?_
    refine AWP.seq ?_
    refine AWP.regS G_ok impl_ReadDate_DD hc (by kernel_rfl) (fun K hK => ?_); simp only [ea, gv, sv, D_impl_DateText, D_strings_Split, D_impl_digitsOf, D_impl_DayOf, reduceCtorEq, reduceIte, Nat.reduceBEq, Nat.reduceAdd, Nat.reduceEqDiff, Nat.reduceLT, Nat.reduceLeDiff, Nat.reduceMul, Nat.reduceSub, BEq.rfl, beq_self_eq_true, Int.reduceToNat]
    (refine ⟨by ((simp only [ob, ln, bdv, sv] at *; omega)), hK _ ?_⟩)
    clear hK K
    refine AWP.seq ?_
    refine AWP.regS G_ok impl_ReadDate_DD hc (by kernel_rfl) (fun K hK => ?_); simp only [ea, gv, sv, D_impl_DateText, D_strings_Split, D_impl_digitsOf, D_impl_DayOf, reduceCtorEq, reduceIte, Nat.reduceBEq, Nat.reduceAdd, Nat.reduceEqDiff, Nat.reduceLT, Nat.reduceLeDiff, Nat.reduceMul, Nat.reduceSub, BEq.rfl, beq_self_eq_true, Int.reduceToNat]
    (refine ⟨by ((simp only [ob, ln, bdv, sv] at *; omega)), hK _ ?_⟩)
    clear hK K
    refine AWP.seq ?_
    refine AWP.regS G_ok impl_ReadDate_DD hc (by kernel_rfl) (fun K hK => ?_); simp only [ea, gv, sv, D_impl_DateText, D_strings_Split, D_impl_digitsOf, D_impl_DayOf, reduceCtorEq, reduceIte, Nat.reduceBEq, Nat.reduceAdd, Nat.reduceEqDiff, Nat.reduceLT, Nat.reduceLeDiff, Nat.reduceMul, Nat.reduceSub, BEq.rfl, beq_self_eq_true, Int.reduceToNat]
    (refine ⟨by ((simp only [ob, ln, bdv, sv] at *; omega)), hK _ ?_⟩)
    clear hK K
    refine AWP.seq ?_
    refine AWP.regS G_ok impl_ReadDate_DD hc (by kernel_rfl) (fun K hK => ?_); simp only [ea, gv, sv, D_impl_DateText, D_strings_Split, D_impl_digitsOf, D_impl_DayOf, reduceCtorEq, reduceIte, Nat.reduceBEq, Nat.reduceAdd, Nat.reduceEqDiff, Nat.reduceLT, Nat.reduceLeDiff, Nat.reduceMul, Nat.reduceSub, BEq.rfl, beq_self_eq_true, Int.reduceToNat]
    (refine hK _ ?_)
    clear hK K
    refine AWP.seq ?_
    refine AWP.seq ?_
    refine AWP.regS G_ok impl_ReadDate_DD hc (by kernel_rfl) (fun K hK => ?_); simp only [ea, gv, sv, D_impl_DateText, D_strings_Split, D_impl_digitsOf, D_impl_DayOf, reduceCtorEq, reduceIte, Nat.reduceBEq, Nat.reduceAdd, Nat.reduceEqDiff, Nat.reduceLT, Nat.reduceLeDiff, Nat.reduceMul, Nat.reduceSub, BEq.rfl, beq_self_eq_true, Int.reduceToNat]
    (refine hK _ ?_)
    clear hK K
    refine AWP.cond rfl (fun hb => ?_) (fun hb => ?_)
    · (simp only [hb, cond_true] at hR)
      refine AWP.seq ?_
      refine AWP.regS G_ok impl_ReadDate_DD hc (by kernel_rfl) (fun K hK => ?_); simp only [ea, gv, sv, D_impl_DateText, D_strings_Split, D_impl_digitsOf, D_impl_DayOf, reduceCtorEq, reduceIte, Nat.reduceBEq, Nat.reduceAdd, Nat.reduceEqDiff, Nat.reduceLT, Nat.reduceLeDiff, Nat.reduceMul, Nat.reduceSub, BEq.rfl, beq_self_eq_true, Int.reduceToNat]
      (refine hK _ ?_)
      clear hK K
      refine AWP.ret ?_
      subst hR
      (simp only [en, si, ea, gv, sv, hk, reduceCtorEq, reduceIte, Nat.reduceBEq, Nat.reduceAdd, Nat.reduceEqDiff, Nat.reduceLT, Nat.reduceLeDiff, Nat.reduceMul, Nat.reduceSub, BEq.rfl, beq_self_eq_true, Int.reduceToNat]; done)
    · (simp only [hb, cond_false] at hR)
      refine AWP.skip ?_
      refine AWP.seq ?_
      refine AWP.regS G_ok impl_ReadDate_DD hc (by kernel_rfl) (fun K hK => ?_); simp only [ea, gv, sv, D_impl_DateText, D_strings_Split, D_impl_digitsOf, D_impl_DayOf, reduceCtorEq, reduceIte, Nat.reduceBEq, Nat.reduceAdd, Nat.reduceEqDiff, Nat.reduceLT, Nat.reduceLeDiff, Nat.reduceMul, Nat.reduceSub, BEq.rfl, beq_self_eq_true, Int.reduceToNat]
      (refine hK _ ?_)
      clear hK K
      refine AWP.ret ?_
      subst hR
      (simp only [en, si, ea, gv, sv, hk, reduceCtorEq, reduceIte, Nat.reduceBEq, Nat.reduceAdd, Nat.reduceEqDiff, Nat.reduceLT, Nat.reduceLeDiff, Nat.reduceMul, Nat.reduceSub, BEq.rfl, beq_self_eq_true, Int.reduceToNat]; done)
def D_impl_ReadDate : DF
  | [x0] => some (.tup [.int .i64 ((impl_ReadDate (rdS x0)).1), .bool ((impl_ReadDate (rdS x0)).2)], false, [wS x0, (rdS x0).length < 1099511627776, (rdS x0).length ≤ 1048576])
  | _ => none
theorem D_impl_ReadDate_ok : OkD Tryz.prog 29 D_impl_ReadDate := by
  intro xs r z ob h ho
  unfold D_impl_ReadDate at h
  split at h
  · simp only [Option.some.injEq, Prod.mk.injEq] at h
    obtain ⟨rfl, rfl, rfl⟩ := h
    obtain ⟨h0, hb0, hp0, _⟩ := ho
    exact Den.sim (impl_ReadDate_den _ hb0 hp0) (simOL_cons (wS_sim h0).1 <| trivial) (noIdL_cons (wS_sim h0).2 <| rfl) rfl
  · cases h
end Go.Ab

namespace Go.Ab
open Go Go.Proofs
def u8D (k : Nat) : UInt8 := UInt8.ofNat (48 + k)
theorem u8D_val {k : Nat} (h : k < 10) : (u8D k).toNat = 48 + k := u8_dig k h
def pad2 (m : Nat) : List UInt8 := [u8D (m / 10), u8D (m % 10)]
def pad4 (y : Nat) : List UInt8 := [u8D (y / 1000), u8D (y / 100 % 10), u8D (y / 10 % 10), u8D (y % 10)]
theorem pad2_dig {m : Nat} (h : m < 100) : allDig (pad2 m) ∧ digV 0 (pad2 m) = m := by
  have h1 := u8D_val (k := m / 10) (by omega)
  have h2 := u8D_val (k := m % 10) (by omega)
  refine ⟨fun b hb => ?_, ?_⟩
  · simp only [pad2, List.mem_cons, List.not_mem_nil, or_false] at hb
    rcases hb with rfl | rfl <;> omega
  · unfold pad2
    rw [digV_cons, digV_cons, digV_nil, h1, h2]; omega
theorem pad4_dig {y : Nat} (h : y < 10000) : allDig (pad4 y) ∧ digV 0 (pad4 y) = y := by
  have h1 := u8D_val (k := y / 1000) (by omega)
  have h2 := u8D_val (k := y / 100 % 10) (by omega)
  have h3 := u8D_val (k := y / 10 % 10) (by omega)
  have h4 := u8D_val (k := y % 10) (by omega)
  refine ⟨fun b hb => ?_, ?_⟩
  · simp only [pad4, List.mem_cons, List.not_mem_nil, or_false] at hb
    rcases hb with rfl | rfl | rfl | rfl <;> omega
  · unfold pad4
    rw [digV_cons, digV_cons, digV_cons, digV_cons, digV_nil, h1, h2, h3, h4]; omega
theorem dec_pad4 {y : Nat} (h1 : 1000 ≤ y) (h2 : y < 10000) : Lib.decDigits y = pad4 y := by
  rw [decDigits_snoc y (by omega), decDigits_snoc (y / 10) (by omega), decDigits_snoc (y / 10 / 10) (by omega), Lib.decDigits_one (by omega)]
  unfold pad4 u8D
  rw [show y / 10 / 10 / 10 = y / 1000 by omega, show y / 10 / 10 % 10 = y / 100 % 10 by omega]
  rfl
theorem padded_pad2 {m : Nat} (h : m < 100) : impl_padded (m : Int) 2 = pad2 m := by
  unfold impl_padded
  rw [impl_Decimal_eq, itoa_pos]
  by_cases h10 : m < 10
  · rw [Lib.decDigits_one h10]
    unfold pad2 u8D
    rw [show m / 10 = 0 by omega, show m % 10 = m by omega]
    rfl
  · rw [decDigits_snoc m h10, Lib.decDigits_one (by omega)]
    rfl
def D10 (y m d : Nat) : List UInt8 := pad4 y ++ 45 :: (pad2 m ++ 45 :: pad2 d)
theorem dateText_D10 {a : Int} (h1 : 0 ≤ a) (h2 : a ≤ 99999) : ∃ y m d : Nat, impl_dateOf a = ((y : Int), (m : Int), (d : Int)) ∧ 2000 ≤ y ∧ y ≤ 2273 ∧ 1 ≤ m ∧ m ≤ 12 ∧ 1 ≤ d ∧ d ≤ 31 ∧ DateIs a y m d ∧ impl_DateText a = D10 y m d := by
  obtain ⟨y, m, d, e, hy, hd⟩ := impl_dateOf_is a h1 h2
  have hm := mdD_le (l := leapD y) hd.2.1 hd.2.2.1
  obtain ⟨q1, q2, q3, q4, q5, q6⟩ := hd
  refine ⟨y.toNat, m.toNat, d.toNat, ?_, by omega, by omega, by omega, by omega, by omega, by omega, ?_, ?_⟩
  · rw [e, show (y.toNat : Int) = y by omega, show (m.toNat : Int) = m by omega, show (d.toNat : Int) = d by omega]
  · rw [show (y.toNat : Int) = y by omega, show (m.toNat : Int) = m by omega, show (d.toNat : Int) = d by omega]
    exact ⟨q1, q2, q3, q4, q5, q6⟩
  · unfold impl_DateText impl_isDay impl_within
    simp only [h1, h2, decide_true, Bool.and_self, Bool.not_true, cond_false, e]
    conv => lhs; rw [show y = (y.toNat : Int) by omega, show m = (m.toNat : Int) by omega, show d = (d.toNat : Int) by omega]
    rw [impl_Decimal_eq, itoa_pos, dec_pad4 (by omega) (by omega), padded_pad2 (by omega), padded_pad2 (by omega)]
    unfold D10
    simp
theorem dateOf_unique {a y m d : Int} (h1 : 0 ≤ a) (h2 : a ≤ 99999) (h : DateIs a y m d) : impl_dateOf a = (y, m, d) := by
  obtain ⟨y', m', d', e, _, h'⟩ := impl_dateOf_is a h1 h2
  obtain ⟨rfl, rfl, rfl⟩ := h.unique h'
  exact e
theorem dig_cond (x : Int) : (decide (x < 48) || decide (57 < x)) = !(decide (48 ≤ x) && decide (x ≤ 57)) := by
  apply Bool.eq_iff_iff.2
  simp only [Bool.or_eq_true, decide_eq_true_eq, Bool.not_eq_true', Bool.and_eq_false_iff, decide_eq_false_iff_not]
  omega
theorem l03Digits_eq (l : List UInt8) (h : l.length ≤ 18) : spec_l03Digits l = if allDig l then (((digV 0 l : Nat) : Int), true) else (0, false) := by
  unfold spec_l03Digits
  have hpow : (0 + 1) * 10 ^ (l.length - 0) ≤ E18 := by
    have : 10 ^ (l.length - 0) ≤ 10 ^ 18 := Nat.pow_le_pow_right (by decide) (by omega)
    have h6 : (10 : Nat) ^ 18 = 1000000000000000000 := by decide
    unfold E18; omega
  have hL := digit_loop l (spec_l03Digits_b1 l) (fun i s => by
    unfold spec_l03Digits_b1
    rw [dig_cond]) (l.length - 0) 0 0 (by omega) hpow
  rw [List.drop_zero] at hL
  rw [show (0 : Int) = ((0 : Nat) : Int) from rfl, hL]
  by_cases hA : allDig l
  · rw [if_pos hA, if_pos hA]
  · rw [if_neg hA, if_neg hA]; rfl
theorem digitsOf_eq (l : List UInt8) (h : l.length ≤ 18) (h0 : l ≠ []) : impl_digitsOf l = if allDig l then (((digV 0 l : Nat) : Int), true) else (0, false) := by
  unfold impl_digitsOf
  have hpow : (0 + 1) * 10 ^ (l.length - 0) ≤ E18 := by
    have : 10 ^ (l.length - 0) ≤ 10 ^ 18 := Nat.pow_le_pow_right (by decide) (by omega)
    have h6 : (10 : Nat) ^ 18 = 1000000000000000000 := by decide
    unfold E18; omega
  have hL := digit_loop l (impl_digitsOf_b1 l) (fun i s => by
    unfold impl_digitsOf_b1
    rw [dig_cond]) (l.length - 0) 0 0 (by omega) hpow
  rw [List.drop_zero] at hL
  rw [show (0 : Int) = ((0 : Nat) : Int) from rfl, hL]
  have hw : impl_within (l.length : Int) 1 18 = true := by
    have := List.length_pos_iff.2 h0
    unfold impl_within; simp; omega
  by_cases hA : allDig l
  · rw [if_pos hA, if_pos hA]; simp only [hw]
  · rw [if_neg hA, if_neg hA]; rfl
end Go.Ab

namespace Go.Ab
open Go Go.Proofs
theorem yb_le {y : Int} (h1 : 2000 ≤ y) (h2 : y ≤ 2274) : 0 ≤ ybD y ∧ ybD y ≤ 100284 := by unfold ybD; omega
theorem mb_le' : ∀ (l : Bool) (m : Fin 13), mbD l m ≤ 335 := by decide
theorem mb_le {l : Bool} {m : Nat} (h : m ≤ 12) : mbD l m ≤ 335 := mb_le' l ⟨m, by omega⟩
theorem l03Number_val (y m d : Nat) (h1 : 2000 ≤ y) (h2 : y ≤ 2273) (h3 : 1 ≤ m) (h4 : m ≤ 12) (h5 : 1 ≤ d) (h6 : d ≤ 31) : spec_l03Number y m d = ybD y + mbD (leapD y) m + d - 1 := by
  have L1 := loopR_all (b := spec_l03Number_b1 y m d) (I := fun i t => 2000 ≤ i ∧ (i ≤ 2273 → t = ybD i + d - 1)) (fun i s hI => by
    obtain ⟨hI1, hI2⟩ := hI
    unfold spec_l03Number_b1
    have hlp : spec_l03Leap (i : Int) = leapD (i : Int) := rfl
    rw [hlp]
    by_cases hle : i ≤ 2272
    · have hs := hI2 (by omega)
      have hb := yb_le (y := (i : Int)) (by omega) (by omega)
      have hn := leap_yb (i : Int) (by omega)
      cases hl : leapD (i : Int) with
      | true =>
        rw [hl] at hn
        simp only [cond_true] at hn ⊢
        refine ⟨_, rfl, by omega, fun _ => ?_⟩
        rw [wrap_id (n := s + 365) (by omega) (by omega), wrap_id (by omega) (by omega)]
        push_cast
        omega
      | false =>
        rw [hl] at hn
        simp only [cond_false] at hn ⊢
        refine ⟨_, rfl, by omega, fun _ => ?_⟩
        rw [wrap_id (by omega) (by omega)]
        push_cast
        omega
    · cases leapD (i : Int) with
      | true => exact ⟨_, rfl, by omega, fun _ => by omega⟩
      | false => exact ⟨_, rfl, by omega, fun _ => by omega⟩) (y - 2000) 2000 ((d : Int) - 1) ⟨by omega, fun _ => by simp [ybD]⟩
  obtain ⟨t, e1, _, q1⟩ := L1
  have q1 := q1 (by omega)
  rw [show 2000 + (y - 2000) = y by omega] at q1
  have hyb := yb_le (y := (y : Int)) (by omega) (by omega)
  have L2 := loopR_all (b := spec_l03Number_b2 y m d t) (I := fun i s => 1 ≤ i ∧ (i ≤ 12 → s = t + mbD (leapD y) i)) (fun i s hI => by
    obtain ⟨hI1, hI2⟩ := hI
    refine ⟨_, rfl, by omega, fun hle => ?_⟩
    have hs := hI2 (by omega)
    have hm := mdD_spec (y := (y : Int)) (m := (i : Int)) (by omega) (by omega)
    have hsu := mb_succ (l := leapD y) (m := (i : Int)) (by omega) (by omega)
    have hml := mdD_le (l := leapD y) (m := (i : Int)) (by omega) (by omega)
    have hbl := mb_le (l := leapD y) (m := i) (by omega)
    rw [show ((i : Int) + 1).toNat = i + 1 by omega, Int.toNat_natCast] at hsu
    rw [Int.toNat_natCast] at hm hml
    rw [wrap_id (by omega) (by omega), hm]
    omega) (m - 1) 1 t ⟨by omega, fun _ => by rw [mb_first]; simp⟩
  obtain ⟨u, e2, _, q2⟩ := L2
  have q2 := q2 (by omega)
  rw [show 1 + (m - 1) = m by omega] at q2
  unfold spec_l03Number
  rw [wrap_id (n := (d : Int) - 1) (by omega) (by omega), Int.toNat_natCast, Int.toNat_natCast, e1]
  simp only
  rw [e2]
  simp only
  omega
theorem firstDay_val (y : Nat) (h1 : 2000 ≤ y) (h2 : y ≤ 2273) : impl_firstDay y = ybD y := by
  have L1 := loopR_all (b := impl_firstDay_b1 y) (I := fun i t => 2000 ≤ i ∧ (i ≤ 2273 → t = ybD i)) (fun i s hI => by
    obtain ⟨hI1, hI2⟩ := hI
    refine ⟨_, rfl, by omega, fun hle => ?_⟩
    have hs := hI2 (by omega)
    have hb := yb_le (y := (i : Int)) (by omega) (by omega)
    have hn := leap_yb (i : Int) (by omega)
    have hyd : impl_yearDays (i : Int) = 365 + (bif leapD (i : Int) then 1 else 0) := by
      unfold impl_yearDays; rw [leap_eq (by omega) (by omega)]; cases leapD (i : Int) <;> rfl
    have hy := impl_yearDays_eq (i : Int)
    rw [wrap_id (by omega) (by omega), hyd]
    push_cast
    omega) (y - 2000) 2000 0 ⟨by omega, fun _ => by simp [ybD]⟩
  obtain ⟨t, e1, _, q1⟩ := L1
  have q1 := q1 (by omega)
  rw [show 2000 + (y - 2000) = y by omega] at q1
  unfold impl_firstDay
  rw [Int.toNat_natCast, e1]
  exact q1
theorem dayOf_val (y m d : Nat) (h1 : 2000 ≤ y) (h2 : y ≤ 2273) (h3 : 1 ≤ m) (h4 : m ≤ 12) (h5 : 1 ≤ d) (h6 : d ≤ 31) : impl_dayOf y m d = ybD y + mbD (leapD y) m + d - 1 := by
  have hyb := yb_le (y := (y : Int)) (by omega) (by omega)
  have L2 := loopR_all (b := impl_dayOf_b1 y m d) (I := fun i s => 1 ≤ i ∧ (i ≤ 12 → s = ybD y + d - 1 + mbD (leapD y) i)) (fun i s hI => by
    obtain ⟨hI1, hI2⟩ := hI
    refine ⟨_, rfl, by omega, fun hle => ?_⟩
    have hs := hI2 (by omega)
    have hm := mdD_impl (y := (y : Int)) (m := (i : Int)) (by omega) (by omega) (by omega) (by omega)
    have hsu := mb_succ (l := leapD y) (m := (i : Int)) (by omega) (by omega)
    have hml := mdD_le (l := leapD y) (m := (i : Int)) (by omega) (by omega)
    have hbl := mb_le (l := leapD y) (m := i) (by omega)
    rw [show ((i : Int) + 1).toNat = i + 1 by omega, Int.toNat_natCast] at hsu
    rw [Int.toNat_natCast] at hm hml
    rw [wrap_id (by omega) (by omega), hm]
    omega) (m - 1) 1 (ybD y + d - 1) ⟨by omega, fun _ => by rw [mb_first]; simp⟩
  obtain ⟨u, e2, _, q2⟩ := L2
  have q2 := q2 (by omega)
  rw [show 1 + (m - 1) = m by omega] at q2
  unfold impl_dayOf
  rw [firstDay_val y h1 h2, wrap_id (n := ybD y + (d : Int)) (by omega) (by omega), wrap_id (by omega) (by omega), Int.toNat_natCast, e2]
  simp only
  omega
end Go.Ab

namespace Go.Ab
open Go Go.Proofs
def DateSpec (w : List UInt8) (r : Int × Bool) : Prop :=
  (∃ a : Int, 0 ≤ a ∧ a ≤ 99999 ∧ w = impl_DateText a ∧ r = (a, true)) ∨ ((∀ a : Int, 0 ≤ a → a ≤ 99999 → w ≠ impl_DateText a) ∧ r = (0, false))
theorem D10_inj {y m d y' m' d' : Nat} (h1 : y < 10000) (h2 : m < 100) (h3 : d < 100) (h1' : y' < 10000) (h2' : m' < 100) (h3' : d' < 100) (h : D10 y m d = D10 y' m' d') : y = y' ∧ m = m' ∧ d = d' := by
  have t1 : ∀ y m d, (D10 y m d).take 4 = pad4 y := fun _ _ _ => rfl
  have t2 : ∀ y m d, ((D10 y m d).take 7).drop 5 = pad2 m := fun _ _ _ => rfl
  have t3 : ∀ y m d, (D10 y m d).drop 8 = pad2 d := fun _ _ _ => rfl
  have e1 := congrArg (fun l => digV 0 (List.take 4 l)) h
  have e2 := congrArg (fun l => digV 0 ((List.take 7 l).drop 5)) h
  have e3 := congrArg (fun l => digV 0 (List.drop 8 l)) h
  simp only [t1, t2, t3] at e1 e2 e3
  rw [(pad4_dig h1).2, (pad4_dig h1').2] at e1
  rw [(pad2_dig h2).2, (pad2_dig h2').2] at e2
  rw [(pad2_dig h3).2, (pad2_dig h3').2] at e3
  exact ⟨e1, e2, e3⟩
theorem dateText_inj {a a' : Int} (h1 : 0 ≤ a) (h2 : a ≤ 99999) (h1' : 0 ≤ a') (h2' : a' ≤ 99999) (h : impl_DateText a = impl_DateText a') : a = a' := by
  obtain ⟨y, m, d, _, _, _, _, _, _, _, hd, e⟩ := dateText_D10 h1 h2
  obtain ⟨y', m', d', _, _, _, _, _, _, _, hd', e'⟩ := dateText_D10 h1' h2'
  rw [e, e'] at h
  obtain ⟨rfl, rfl, rfl⟩ := D10_inj (by omega) (by omega) (by omega) (by omega) (by omega) (by omega) h
  have q := hd.2.2.2.2.2
  have q' := hd'.2.2.2.2.2
  omega
theorem DateSpec.unique {w : List UInt8} {r r' : Int × Bool} (h : DateSpec w r) (h' : DateSpec w r') : r = r' := by
  rcases h with ⟨n, h0, h1, h2, rfl⟩ | ⟨h1, rfl⟩ <;> rcases h' with ⟨n', h0', h1', h2', rfl⟩ | ⟨h1', rfl⟩
  · rw [dateText_inj h0 h1 h0' h1' (h2.symm.trans h2')]
  · exact absurd h2 (h1' n h0 h1)
  · exact absurd h2' (h1 n' h0' h1')
  · rfl
theorem DateSpec.of {w : List UInt8} {r : Int × Bool} (h1 : r = (0, false) ∨ ∃ a : Int, 0 ≤ a ∧ a ≤ 99999 ∧ w = impl_DateText a) (h2 : ∀ a : Int, 0 ≤ a → a ≤ 99999 → w = impl_DateText a → r = (a, true)) : DateSpec w r := by
  by_cases h : ∃ a : Int, 0 ≤ a ∧ a ≤ 99999 ∧ w = impl_DateText a
  · obtain ⟨a, q1, q2, q3⟩ := h
    exact .inl ⟨a, q1, q2, q3, h2 a q1 q2 q3⟩
  · refine .inr ⟨fun a q1 q2 q3 => h ⟨a, q1, q2, q3⟩, ?_⟩
    rcases h1 with h1 | h1
    · exact h1
    · exact absurd h1 h
theorem pad2_of {a b : UInt8} (h : allDig [a, b]) : pad2 (digV 0 [a, b]) = [a, b] := by
  have ha := h a (by simp)
  have hb := h b (by simp)
  rw [digV_cons, digV_cons, digV_nil]
  unfold pad2 u8D
  congr 1
  · rw [show (10 * (10 * 0 + (a.toNat - 48)) + (b.toNat - 48)) / 10 = a.toNat - 48 by omega]; exact u8_of ha.1 ha.2
  · congr 1
    rw [show (10 * (10 * 0 + (a.toNat - 48)) + (b.toNat - 48)) % 10 = b.toNat - 48 by omega]; exact u8_of hb.1 hb.2
theorem pad4_of {a b c e : UInt8} (h : allDig [a, b, c, e]) : pad4 (digV 0 [a, b, c, e]) = [a, b, c, e] := by
  have ha := h a (by simp)
  have hb := h b (by simp)
  have hc := h c (by simp)
  have he := h e (by simp)
  rw [digV_cons, digV_cons, digV_cons, digV_cons, digV_nil]
  unfold pad4 u8D
  congr 1
  · rw [show (10 * (10 * (10 * (10 * 0 + (a.toNat - 48)) + (b.toNat - 48)) + (c.toNat - 48)) + (e.toNat - 48)) / 1000 = a.toNat - 48 by omega]; exact u8_of ha.1 ha.2
  · congr 1
    · rw [show (10 * (10 * (10 * (10 * 0 + (a.toNat - 48)) + (b.toNat - 48)) + (c.toNat - 48)) + (e.toNat - 48)) / 100 % 10 = b.toNat - 48 by omega]; exact u8_of hb.1 hb.2
    · congr 1
      · rw [show (10 * (10 * (10 * (10 * 0 + (a.toNat - 48)) + (b.toNat - 48)) + (c.toNat - 48)) + (e.toNat - 48)) / 10 % 10 = c.toNat - 48 by omega]; exact u8_of hc.1 hc.2
      · congr 1
        rw [show (10 * (10 * (10 * (10 * 0 + (a.toNat - 48)) + (b.toNat - 48)) + (c.toNat - 48)) + (e.toNat - 48)) % 10 = e.toNat - 48 by omega]; exact u8_of he.1 he.2
theorem l03Find_val (y m d : Nat) : spec_l03Find y m d = (0, false) ∨ (∃ a : Int, spec_l03Find y m d = (a, decide (a ≤ 99999)) ∧ 0 ≤ a ∧ y ≤ 2273 ∧ m ≤ 12 ∧ d ≤ 31 ∧ DateIs a y m d) := by
  unfold spec_l03Find
  cases hg : ((!(spec_l03Year (y : Int))) || (!(spec_l00In (m : Int) 1 12))) || (!(spec_l00In (d : Int) 1 (spec_l03Days y m))) with
  | true => left; rfl
  | false =>
    right
    simp only [spec_l03Year, spec_l00In, Bool.or_eq_false_iff, Bool.not_eq_false', Bool.and_eq_true, decide_eq_true_eq] at hg
    obtain ⟨⟨⟨g1, g2⟩, g3, g4⟩, g5, g6⟩ := hg
    have hge := spec_l03Days_ge (y : Int) (m : Int)
    have hm := mdD_spec (y := (y : Int)) (m := (m : Int)) g3 g4
    have hn := l03Number_val y m d (by omega) (by omega) (by omega) (by omega) (by omega) (by omega)
    have hb := yb_nonneg (y := (y : Int)) (by omega)
    refine ⟨spec_l03Number y m d, rfl, by omega, by omega, by omega, by omega, g1, g3, g4, g5, by omega, ?_⟩
    rw [hn, Int.toNat_natCast]
theorem l03Find_of {a : Int} {y m d : Nat} (h1 : 0 ≤ a) (h2 : a ≤ 99999) (hd : DateIs a y m d) : spec_l03Find y m d = (a, true) := by
  obtain ⟨q1, q2, q3, q4, q5, q6⟩ := hd
  have hm := mdD_spec (y := (y : Int)) (m := (m : Int)) q2 q3
  have hle := mdD_le (l := leapD y) q2 q3
  have hy := year_le (y := (y : Int)) (by omega)
  have hn := l03Number_val y m d (by omega) (by omega) (by omega) (by omega) (by omega) (by omega)
  have hg : (((!(spec_l03Year (y : Int))) || (!(spec_l00In (m : Int) 1 12))) || (!(spec_l00In (d : Int) 1 (spec_l03Days y m)))) = false := by
    simp only [spec_l03Year, spec_l00In, Bool.or_eq_false_iff, Bool.not_eq_false', Bool.and_eq_true, decide_eq_true_eq]
    omega
  unfold spec_l03Find
  rw [hg, cond_false]
  rw [Int.toNat_natCast] at q6
  have e : spec_l03Number y m d = a := by omega
  rw [e]
  simp [h2]
theorem l03Read_spec (w : List UInt8) : DateSpec w (spec_l03Read w) := by
  refine DateSpec.of ?_ ?_
  · unfold spec_l03Read
    cases hg : ((((w.length : Int) != 10) || (((w.getD 4 0).toNat : Int) != 45)) || (((w.getD 7 0).toNat : Int) != 45)) with
    | true => left; rfl
    | false =>
      simp only [Bool.or_eq_false_iff, bne_eq_false_iff_eq] at hg
      obtain ⟨⟨hl, h4⟩, h7⟩ := hg
      obtain ⟨b0, b1, b2, b3, b4, b5, b6, b7, b8, b9, rfl⟩ : ∃ b0 b1 b2 b3 b4 b5 b6 b7 b8 b9, w = [b0, b1, b2, b3, b4, b5, b6, b7, b8, b9] := by
        match w, hl with
        | [b0, b1, b2, b3, b4, b5, b6, b7, b8, b9], _ => exact ⟨b0, b1, b2, b3, b4, b5, b6, b7, b8, b9, rfl⟩
      have e4 : b4 = 45 := UInt8.toNat_inj.1 (by show b4.toNat = 45; have h := h4; simp at h; omega)
      have e7 : b7 = 45 := UInt8.toNat_inj.1 (by show b7.toNat = 45; have h := h7; simp at h; omega)
      subst e4 e7
      rw [cond_false]
      have t1 : ([b0, b1, b2, b3, 45, b5, b6, 45, b8, b9] : List UInt8).take 4 = [b0, b1, b2, b3] := rfl
      have t2 : (([b0, b1, b2, b3, 45, b5, b6, 45, b8, b9] : List UInt8).take 7).drop 5 = [b5, b6] := rfl
      have t3 : (([b0, b1, b2, b3, 45, b5, b6, 45, b8, b9] : List UInt8).take ([b0, b1, b2, b3, 45, b5, b6, 45, b8, b9] : List UInt8).length).drop 8 = [b8, b9] := rfl
      rw [t1, t2, t3, l03Digits_eq _ (by simp), l03Digits_eq _ (by simp), l03Digits_eq _ (by simp)]
      by_cases d1 : allDig [b0, b1, b2, b3]
      · by_cases d2 : allDig [b5, b6]
        · by_cases d3 : allDig [b8, b9]
          · rw [if_pos d1, if_pos d2, if_pos d3]
            simp only [Bool.not_true, Bool.or_self, cond_false]
            rcases l03Find_val (digV 0 [b0, b1, b2, b3]) (digV 0 [b5, b6]) (digV 0 [b8, b9]) with h | ⟨a, h, ha, hy, hm, hd, hD⟩
            · left; rw [h]; rfl
            · rw [h]
              by_cases hle : a ≤ 99999
              · right
                refine ⟨a, ha, hle, ?_⟩
                obtain ⟨y', m', d', _, _, _, _, _, _, _, hD', e⟩ := dateText_D10 ha hle
                obtain ⟨r1, r2, r3⟩ := hD'.unique hD
                have r1 : y' = digV 0 [b0, b1, b2, b3] := by omega
                have r2 : m' = digV 0 [b5, b6] := by omega
                have r3 : d' = digV 0 [b8, b9] := by omega
                rw [e, r1, r2, r3]
                unfold D10
                rw [pad4_of d1, pad2_of d2, pad2_of d3]
                rfl
              · left; simp [hle]
          · left; rw [if_pos d1, if_pos d2, if_neg d3]; rfl
        · left; rw [if_pos d1, if_neg d2]; rfl
      · left; rw [if_neg d1]; rfl
  · rintro a h1 h2 rfl
    obtain ⟨y, m, d, _, hy1, hy2, hm1, hm2, hd1, hd2, hD, e⟩ := dateText_D10 h1 h2
    rw [e]
    unfold spec_l03Read
    have t0 : (((((D10 y m d).length : Int) != 10) || ((((D10 y m d).getD 4 0).toNat : Int) != 45)) || ((((D10 y m d).getD 7 0).toNat : Int) != 45)) = false := rfl
    have t1 : (D10 y m d).take 4 = pad4 y := rfl
    have t2 : ((D10 y m d).take 7).drop 5 = pad2 m := rfl
    have t3 : ((D10 y m d).take (D10 y m d).length).drop 8 = pad2 d := rfl
    obtain ⟨p1, p2⟩ := pad4_dig (y := y) (by omega)
    obtain ⟨p3, p4⟩ := pad2_dig (m := m) (by omega)
    obtain ⟨p5, p6⟩ := pad2_dig (m := d) (by omega)
    rw [t0, cond_false, t1, t2, t3, l03Digits_eq _ (by simp [pad4]), l03Digits_eq _ (by simp [pad2]), l03Digits_eq _ (by simp [pad2]), if_pos p1, if_pos p3, if_pos p5, p2, p4, p6]
    simp only [Bool.not_true, Bool.or_self, cond_false]
    rw [l03Find_of h1 h2 hD]
    rfl
theorem dayOf_of {a : Int} {y m d : Nat} (h1 : 0 ≤ a) (h2 : a ≤ 99999) (hd : DateIs a y m d) : impl_DayOf y m d = (a, 0) := by
  obtain ⟨q1, q2, q3, q4, q5, q6⟩ := hd
  have hle := mdD_le (l := leapD y) q2 q3
  have hy := year_le (y := (y : Int)) (by omega)
  have hm := mdD_impl (y := (y : Int)) (m := (m : Int)) q1 hy q2 q3
  have hn := dayOf_val y m d (by omega) (by omega) (by omega) (by omega) (by omega) (by omega)
  rw [Int.toNat_natCast] at q6
  have e : impl_dayOf y m d = a := by omega
  have hg : ((((!(impl_isYear (y : Int))) || (!(impl_isMonth (m : Int)))) || (!(impl_within (d : Int) 1 (impl_monthDays y m)))) || (!(impl_isDay (impl_dayOf y m d)))) = false := by
    rw [e]
    simp only [impl_isYear, impl_isMonth, impl_isDay, impl_within, Bool.or_eq_false_iff, Bool.not_eq_false', Bool.and_eq_true, decide_eq_true_eq]
    omega
  unfold impl_DayOf
  rw [hg, cond_false, e]
theorem dayOf_ok (y m d : Int) (h : (impl_DayOf y m d).2 = 0) : 0 ≤ (impl_DayOf y m d).1 ∧ (impl_DayOf y m d).1 ≤ 99999 := by
  unfold impl_DayOf at h ⊢
  cases hg : ((((!(impl_isYear y)) || (!(impl_isMonth m))) || (!(impl_within d 1 (impl_monthDays y m)))) || (!(impl_isDay (impl_dayOf y m d)))) with
  | true => rw [hg] at h; simp at h
  | false =>
    rw [cond_false]
    simp only [Bool.or_eq_false_iff, Bool.not_eq_false', impl_isDay, impl_within, Bool.and_eq_true, decide_eq_true_eq] at hg
    exact hg.2
theorem readDate_spec (w : List UInt8) (hw : w.length ≤ 1048576) : DateSpec w (impl_ReadDate w) := by
  refine DateSpec.of ?_ ?_
  · unfold impl_ReadDate
    cases hl : (((strings_Split w [45]).length : Int) != 3) with
    | true => left; rfl
    | false =>
      rw [cond_false]
      have hok := dayOf_ok ((impl_digitsOf ((strings_Split w [45]).getD 0 default)).1) ((impl_digitsOf ((strings_Split w [45]).getD 1 default)).1) ((impl_digitsOf ((strings_Split w [45]).getD 2 default)).1)
      generalize impl_DayOf ((impl_digitsOf ((strings_Split w [45]).getD 0 default)).1) ((impl_digitsOf ((strings_Split w [45]).getD 1 default)).1) ((impl_digitsOf ((strings_Split w [45]).getD 2 default)).1) = q at hok ⊢
      cases hc : (((((!((impl_digitsOf ((strings_Split w [45]).getD 0 default)).2)) || (!((impl_digitsOf ((strings_Split w [45]).getD 1 default)).2))) || (!((impl_digitsOf ((strings_Split w [45]).getD 2 default)).2))) || (q.2 != 0)) || ((impl_DateText q.1) != w)) with
      | true => left; rfl
      | false =>
        right
        rw [Bool.or_eq_false_iff, Bool.or_eq_false_iff] at hc
        obtain ⟨⟨_, hq⟩, ht⟩ := hc
        have hq : q.2 = 0 := by simpa using hq
        have ht : impl_DateText q.1 = w := by simpa using ht
        exact ⟨q.1, (hok hq).1, (hok hq).2, ht.symm⟩
  · rintro a h1 h2 rfl
    obtain ⟨y, m, d, _, hy1, hy2, hm1, hm2, hd1, hd2, hD, e⟩ := dateText_D10 h1 h2
    have e45 : ∀ l : List UInt8, allDig l → (45 : UInt8) ∉ l := fun l h hm => by have := h 45 hm; simp at this
    obtain ⟨p1, p2⟩ := pad4_dig (y := y) (by omega)
    obtain ⟨p3, p4⟩ := pad2_dig (m := m) (by omega)
    obtain ⟨p5, p6⟩ := pad2_dig (m := d) (by omega)
    have hs : strings_Split (D10 y m d) [45] = [pad4 y, pad2 m, pad2 d] := by
      unfold strings_Split D10
      show splitC 45 _ = _
      rw [splitC_cons _ _ _ (e45 _ p1), splitC_cons _ _ _ (e45 _ p3), splitC_none _ _ (e45 _ p5)]
    have hr : impl_ReadDate (D10 y m d) = (bif impl_DateText a != D10 y m d then (0, false) else (a, true)) := by
      unfold impl_ReadDate
      rw [hs]
      show (bif (((((!((impl_digitsOf (pad4 y)).2)) || (!((impl_digitsOf (pad2 m)).2))) || (!((impl_digitsOf (pad2 d)).2))) || (((impl_DayOf ((impl_digitsOf (pad4 y)).1) ((impl_digitsOf (pad2 m)).1) ((impl_digitsOf (pad2 d)).1)).2) != 0)) || ((impl_DateText ((impl_DayOf ((impl_digitsOf (pad4 y)).1) ((impl_digitsOf (pad2 m)).1) ((impl_digitsOf (pad2 d)).1)).1)) != D10 y m d)) then (0, false) else ((impl_DayOf ((impl_digitsOf (pad4 y)).1) ((impl_digitsOf (pad2 m)).1) ((impl_digitsOf (pad2 d)).1)).1, true)) = _
      rw [digitsOf_eq _ (by simp [pad4]) (by simp [pad4]), digitsOf_eq _ (by simp [pad2]) (by simp [pad2]), digitsOf_eq _ (by simp [pad2]) (by simp [pad2]), if_pos p1, if_pos p3, if_pos p5, p2, p4, p6]
      simp only
      rw [dayOf_of h1 h2 hD]
      simp
    rw [e, hr, e]
    simp
theorem date_read_eq (w : List UInt8) (hw : w.length ≤ 1048576) : impl_ReadDate w = spec_l03Read w := (readDate_spec w hw).unique (l03Read_spec w)
end Go.Ab

namespace Go.Ab
open Go Go.Proofs
theorem impl_SplitWords_DD : DOk Tryz.prog (DD [(62, dP D_strings_Split)]) := DD_cons D_strings_Split_ok.e <| DD_nil _
def impl_SplitWords_b1 (a0 : (List UInt8)) (i1 : Nat) (s1 : List (List UInt8)) : Except ((List (List UInt8))) (List (List UInt8)) :=
  (bif (((strings_Split a0 [32]).getD i1 default) != []) then .ok (s1 ++ [((strings_Split a0 [32]).getD i1 default)]) else .ok s1)
def impl_SplitWords (a0 : (List UInt8)) : (List (List UInt8)) :=
  (match loopR (impl_SplitWords_b1 a0) (((strings_Split a0 [32]).length) - 0) 0 ([] : List (List UInt8)) with | .error e => e | .ok s1 => s1)
theorem impl_SplitWords_den (a0 : (List UInt8)) (hb0 : a0.length < 1099511627776) (hp0 : a0.length ≤ 1048576) : Den Tryz.prog 28 [.str a0] (ownL 9 1 eS (impl_SplitWords a0)) := by
  generalize hR : impl_SplitWords a0 = r
  unfold impl_SplitWords at hR
  refine den_intro G_ok Tryz.func28 (by kernel_rfl) rfl Tryz.ntmps28 (by rw [Tryz.results28]) (by simp) rfl ?_
  intro c hL hc hk
  obtain ⟨hL0, _⟩ := hL
  have hw0 : a0.length < 9223372036854775808 := Nat.lt_succ_of_le hL0
  clear hL0
  simp only [pars, Nat.zero_add]
  have hs9 := strings_Split_len a0 [32] (by omega)
  refine AWP.seq ?_
  refine AWP.regS G_ok impl_SplitWords_DD hc (by kernel_rfl) (fun K hK => ?_); simp only [ea, gv, sv, D_strings_Split, reduceCtorEq, reduceIte, Nat.reduceBEq, Nat.reduceAdd, Nat.reduceEqDiff, Nat.reduceLT, Nat.reduceLeDiff, Nat.reduceMul, Nat.reduceSub, BEq.rfl, beq_self_eq_true, Int.reduceToNat]
  (refine hK _ ?_)
  clear hK K
  refine AWP.seq ?_
  refine AWP.regS G_ok impl_SplitWords_DD hc (by kernel_rfl) (fun K hK => ?_); simp only [ea, gv, sv, D_strings_Split, reduceCtorEq, reduceIte, Nat.reduceBEq, Nat.reduceAdd, Nat.reduceEqDiff, Nat.reduceLT, Nat.reduceLeDiff, Nat.reduceMul, Nat.reduceSub, BEq.rfl, beq_self_eq_true, Int.reduceToNat]
  (refine hK _ ?_)
  clear hK K
  refine AWP.seq ?_
  refine AWP.seq ?_
  refine AWP.regS G_ok impl_SplitWords_DD hc (by kernel_rfl) (fun K hK => ?_); simp only [ea, gv, sv, D_strings_Split, reduceCtorEq, reduceIte, Nat.reduceBEq, Nat.reduceAdd, Nat.reduceEqDiff, Nat.reduceLT, Nat.reduceLeDiff, Nat.reduceMul, Nat.reduceSub, BEq.rfl, beq_self_eq_true, Int.reduceToNat]
  (refine ⟨by (trivial), hK _ ?_⟩)
  clear hK K
  refine AWP.block ?_
  generalize hz1 : loopR (impl_SplitWords_b1 a0) (((strings_Split a0 [32]).length) - 0) 0 ([] : List (List UInt8)) = z1 at hR
  refine AWP.range (impl_SplitWords_b1 a0) (fun i1 s1 => ⟨[(3, .ref 0 1 0 s1.length), (8, .ref 1 1 0 ((strings_Split a0 [32]).length)), (9, .int .i64 ((strings_Split a0 [32]).length : Int)), (10, .int .i64 (i1 : Int))], [.arr 9 1 s1.length (fun j => eS (s1.getD j default)), .arr 9 1 (strings_Split a0 [32]).length (fun j => eS ((strings_Split a0 [32]).getD j default))]⟩) (fun i1 s1 => s1.length ≤ ([] : List (List UInt8)).length + 1 * i1 ∧ s1.length ≤ i1) (((strings_Split a0 [32]).length)) 0 ([] : List (List UInt8)) [0, 1] hz1 (by (omega)) (by (trivial)) (by (simp only [si, ea, gv, sv, hk, reduceCtorEq, reduceIte, Nat.reduceBEq, Nat.reduceAdd, Nat.reduceEqDiff, Nat.reduceLT, Nat.reduceLeDiff, Nat.reduceMul, Nat.reduceSub, BEq.rfl, beq_self_eq_true, Int.reduceToNat]; trivial)) ?_
  clear hz1
  intro i1 s1 hi1 hW1 hz1
  refine AWP.seq ?_
  refine AWP.regS G_ok impl_SplitWords_DD hc (by kernel_rfl) (fun K hK => ?_); simp only [ea, gv, sv, D_strings_Split, reduceCtorEq, reduceIte, Nat.reduceBEq, Nat.reduceAdd, Nat.reduceEqDiff, Nat.reduceLT, Nat.reduceLeDiff, Nat.reduceMul, Nat.reduceSub, BEq.rfl, beq_self_eq_true, Int.reduceToNat]
  (refine hK _ ?_)
  clear hK K
  refine AWP.seq ?_
  refine AWP.cond rfl (fun hb => ?_) (fun hb => ?_)
  · have hlt1 : i1 < ((strings_Split a0 [32]).length) := by ((simp only [ob, ln, bdv, sv] at *; omega))
    rw [loopR_lt hlt1] at hz1; simp only [impl_SplitWords_b1] at hz1
    refine AWP.skip ?_
    refine AWP.seq ?_
    refine AWP.block ?_
    refine AWP.seq ?_
    refine AWP.regS G_ok impl_SplitWords_DD hc (by kernel_rfl) (fun K hK => ?_); simp only [ea, gv, sv, D_strings_Split, reduceCtorEq, reduceIte, Nat.reduceBEq, Nat.reduceAdd, Nat.reduceEqDiff, Nat.reduceLT, Nat.reduceLeDiff, Nat.reduceMul, Nat.reduceSub, BEq.rfl, beq_self_eq_true, Int.reduceToNat]
    (refine ⟨by (omega), hK _ ?_⟩)
    clear hK K
    refine AWP.seq ?_
    refine AWP.regS G_ok impl_SplitWords_DD hc (by kernel_rfl) (fun K hK => ?_); simp only [ea, gv, sv, D_strings_Split, reduceCtorEq, reduceIte, Nat.reduceBEq, Nat.reduceAdd, Nat.reduceEqDiff, Nat.reduceLT, Nat.reduceLeDiff, Nat.reduceMul, Nat.reduceSub, BEq.rfl, beq_self_eq_true, Int.reduceToNat]
    (refine hK _ ?_)
    clear hK K
    refine AWP.cond rfl (fun hb => ?_) (fun hb => ?_)
    · (simp only [hb, cond_true] at hz1)
      refine AWP.regS G_ok impl_SplitWords_DD hc (by kernel_rfl) (fun K hK => ?_); simp only [ea, gv, sv, D_strings_Split, reduceCtorEq, reduceIte, Nat.reduceBEq, Nat.reduceAdd, Nat.reduceEqDiff, Nat.reduceLT, Nat.reduceLeDiff, Nat.reduceMul, Nat.reduceSub, BEq.rfl, beq_self_eq_true, Int.reduceToNat]
      (refine ⟨by (omega), hK _ ?_⟩)
      clear hK K
      refine AWP.regS G_ok impl_SplitWords_DD hc (by kernel_rfl) (fun K hK => ?_); simp only [ea, gv, sv, D_strings_Split, reduceCtorEq, reduceIte, Nat.reduceBEq, Nat.reduceAdd, Nat.reduceEqDiff, Nat.reduceLT, Nat.reduceLeDiff, Nat.reduceMul, Nat.reduceSub, BEq.rfl, beq_self_eq_true, Int.reduceToNat]
      (refine hK _ ?_)
      clear hK K
      exact ⟨_, [3, 1], hlt1, by ((and_intros <;> simp only [ln] <;> omega)), hz1, by (simp only [si, ea, gv, sv, hk, reduceCtorEq, reduceIte, Nat.reduceBEq, Nat.reduceAdd, Nat.reduceEqDiff, Nat.reduceLT, Nat.reduceLeDiff, Nat.reduceMul, Nat.reduceSub, BEq.rfl, beq_self_eq_true, Int.reduceToNat]; (and_intros <;> first | trivial | (rw [IntKind.wrap_i64]; omega) | (simp only [ln]; done) | (intro j hj; simp only [pw, Bool.cond_eq_ite, Bool.and_eq_true, decide_eq_true_eq]; (try rw [subL_getD _ _ _ _ (by assumption)]); (try rw [clearL_getD _ _ _ _ (by omega)]); (repeat' split) <;> first | rfl | omega)))⟩
    · (simp only [hb, cond_false] at hz1)
      refine AWP.skip ?_
      refine AWP.regS G_ok impl_SplitWords_DD hc (by kernel_rfl) (fun K hK => ?_); simp only [ea, gv, sv, D_strings_Split, reduceCtorEq, reduceIte, Nat.reduceBEq, Nat.reduceAdd, Nat.reduceEqDiff, Nat.reduceLT, Nat.reduceLeDiff, Nat.reduceMul, Nat.reduceSub, BEq.rfl, beq_self_eq_true, Int.reduceToNat]
      (refine hK _ ?_)
      clear hK K
      exact ⟨_, [0, 1], hlt1, by ((and_intros <;> simp only [ob, ln] at * <;> omega)), hz1, by (simp only [si, ea, gv, sv, hk, reduceCtorEq, reduceIte, Nat.reduceBEq, Nat.reduceAdd, Nat.reduceEqDiff, Nat.reduceLT, Nat.reduceLeDiff, Nat.reduceMul, Nat.reduceSub, BEq.rfl, beq_self_eq_true, Int.reduceToNat]; (and_intros <;> first | trivial | (rw [IntKind.wrap_i64]; omega)))⟩
  · obtain rfl : i1 = ((strings_Split a0 [32]).length) := by ((simp only [ob, ln, bdv, sv] at *; omega))
    rw [loopR_ge (Nat.le_refl _)] at hz1; subst hz1; dsimp only at hR
    refine AWP.exit ?_; refine exitTo_here ?_
    refine AWP.seq ?_
    refine AWP.regS G_ok impl_SplitWords_DD hc (by kernel_rfl) (fun K hK => ?_); simp only [ea, gv, sv, D_strings_Split, reduceCtorEq, reduceIte, Nat.reduceBEq, Nat.reduceAdd, Nat.reduceEqDiff, Nat.reduceLT, Nat.reduceLeDiff, Nat.reduceMul, Nat.reduceSub, BEq.rfl, beq_self_eq_true, Int.reduceToNat]
    (refine hK _ ?_)
    clear hK K
    refine AWP.ret ?_
    subst hR
    (simp only [en, si, ea, gv, sv, hk, reduceCtorEq, reduceIte, Nat.reduceBEq, Nat.reduceAdd, Nat.reduceEqDiff, Nat.reduceLT, Nat.reduceLeDiff, Nat.reduceMul, Nat.reduceSub, BEq.rfl, beq_self_eq_true, Int.reduceToNat]; (and_intros <;> omega))
def D_impl_SplitWords : DF
  | [x0] => some (ownL 9 1 eS (impl_SplitWords (rdS x0)), false, [wS x0, (rdS x0).length < 1099511627776, (rdS x0).length ≤ 1048576])
  | _ => none
def Dz_impl_SplitWords : DF
  | [x0] => some (ownL 9 1 eS (impl_SplitWords (rdS x0)), true, [wS x0, (rdS x0).length < 1099511627776, (rdS x0).length ≤ 1048576])
  | _ => none
theorem D_impl_SplitWords_ok : OkD Tryz.prog 28 D_impl_SplitWords := by
  intro xs r z ob h ho
  unfold D_impl_SplitWords at h
  split at h
  · simp only [Option.some.injEq, Prod.mk.injEq] at h
    obtain ⟨rfl, rfl, rfl⟩ := h
    obtain ⟨h0, hb0, hp0, _⟩ := ho
    exact Den.sim (impl_SplitWords_den _ hb0 hp0) (simOL_cons (wS_sim h0).1 <| trivial) (noIdL_cons (wS_sim h0).2 <| rfl) rfl
  · cases h
theorem Dz_impl_SplitWords_ok : OkD Tryz.prog 28 Dz_impl_SplitWords := by
  intro xs r z ob h ho
  unfold Dz_impl_SplitWords at h
  split at h
  · simp only [Option.some.injEq, Prod.mk.injEq] at h
    obtain ⟨rfl, rfl, rfl⟩ := h
    obtain ⟨h0, hb0, hp0, _⟩ := ho
    exact Den.sim (impl_SplitWords_den _ hb0 hp0) (simOL_cons (wS_sim h0).1 <| trivial) (noIdL_cons (wS_sim h0).2 <| rfl) rfl
  · cases h
end Go.Ab

namespace Go.Ab
open Go Go.Proofs
theorem splitWords_loop (l : List (List UInt8)) (b : Nat → List (List UInt8) → Except (List (List UInt8)) (List (List UInt8))) (hb : ∀ i s, b i s = (bif (l.getD i default) != [] then .ok (s ++ [l.getD i default]) else .ok s)) :
    ∀ (k i : Nat) (s : List (List UInt8)), i + k = l.length → loopR b k i s = .ok (s ++ (l.drop i).filter (· != []))
  | 0, i, s, h => by
    rw [List.drop_eq_nil_of_le (by omega)]
    simp [loopR]
  | k + 1, i, s, h => by
    have hlt : i < l.length := by omega
    have hg : l.getD i default = l[i] := by simp [List.getD, List.getElem?_eq_getElem hlt]
    simp only [loopR, hb, hg]
    rw [List.drop_eq_getElem_cons hlt, List.filter_cons]
    cases hc : (l[i] != []) with
    | true =>
      simp only [cond_true]
      rw [splitWords_loop l b hb k (i + 1) _ (by omega)]
      simp
    | false =>
      simp only [cond_false]
      rw [splitWords_loop l b hb k (i + 1) _ (by omega)]
      simp
theorem impl_SplitWords_eq (a : List UInt8) : impl_SplitWords a = (splitC 32 a).filter (· != []) := by
  unfold impl_SplitWords
  rw [splitWords_loop (strings_Split a [32]) (impl_SplitWords_b1 a) (fun i s => rfl) _ 0 [] (by omega)]
  rfl
theorem impl_SplitWords_len (a : List UInt8) (ha : a.length ≤ 1048576) : ∀ x ∈ impl_SplitWords a, x.length ≤ 1048576 := by
  intro x hx
  rw [impl_SplitWords_eq] at hx
  have := (splitC_len 32 a).2 x (List.mem_filter.1 hx).1
  omega
theorem getD_len {l : List (List UInt8)} (h : ∀ x ∈ l, x.length ≤ 1048576) (i : Nat) : (l.getD i default).length ≤ 1048576 := by
  by_cases hi : i < l.length
  · rw [List.getD_eq_getElem?_getD, List.getElem?_eq_getElem hi]
    exact h _ (List.getElem_mem hi)
  · rw [List.getD_eq_getElem?_getD, List.getElem?_eq_none (by omega)]
    show ([] : List UInt8).length ≤ _
    simp
end Go.Ab

namespace Go.Ab
open Go Go.Proofs
theorem spec_l01Split_DD : DOk Tryz.prog (DD []) := DD_nil _
def spec_l01Split_b1 (a0 : (List UInt8)) (a1 : Int) (i1 : Nat) (s1 : Int × List (List UInt8)) : Except ((List (List UInt8))) (Int × List (List UInt8)) :=
  (bif (((a0.getD i1 0).toNat : Int) == a1) then .ok (IntKind.wrap .i64 ((i1 : Int) + 1), s1.2 ++ [(a0.take i1).drop ((s1.1).toNat)]) else .ok (s1.1, s1.2))
def spec_l01Split (a0 : (List UInt8)) (a1 : Int) : (List (List UInt8)) :=
  (match loopR (spec_l01Split_b1 a0 a1) (a0.length - 0) 0 (0, ([] : List (List UInt8))) with | .error e => e | .ok s1 => s1.2 ++ [(a0.take a0.length).drop ((s1.1).toNat)])
theorem spec_l01Split_den (a0 : (List UInt8)) (a1 : Int) (hb0 : a0.length < 1099511627776) (hp0 : a0.length ≤ 1048576) : Den Tryz.prog 80 [.str a0, .int .u8 a1] (ownL 9 1 eS (spec_l01Split a0 a1)) := by
  generalize hR : spec_l01Split a0 a1 = r
  unfold spec_l01Split at hR
  refine den_intro G_ok Tryz.func80 (by kernel_rfl) rfl Tryz.ntmps80 (by rw [Tryz.results80]) (by simp) rfl ?_
  intro c hL hc hk
  obtain ⟨hL0, hL1, _⟩ := hL
  have hw0 : a0.length < 9223372036854775808 := Nat.lt_succ_of_le hL0
  clear hL0 hL1
  simp only [pars, Nat.zero_add]
  refine AWP.seq ?_
  refine AWP.regS G_ok spec_l01Split_DD hc (by kernel_rfl) (fun K hK => ?_); simp only [ea, gv, sv, reduceCtorEq, reduceIte, Nat.reduceBEq, Nat.reduceAdd, Nat.reduceEqDiff, Nat.reduceLT, Nat.reduceLeDiff, Nat.reduceMul, Nat.reduceSub, BEq.rfl, beq_self_eq_true, Int.reduceToNat]
  (refine hK _ ?_)
  clear hK K
  refine AWP.seq ?_
  refine AWP.regS G_ok spec_l01Split_DD hc (by kernel_rfl) (fun K hK => ?_); simp only [ea, gv, sv, reduceCtorEq, reduceIte, Nat.reduceBEq, Nat.reduceAdd, Nat.reduceEqDiff, Nat.reduceLT, Nat.reduceLeDiff, Nat.reduceMul, Nat.reduceSub, BEq.rfl, beq_self_eq_true, Int.reduceToNat]
  (refine hK _ ?_)
  clear hK K
  refine AWP.seq ?_
  refine AWP.regS G_ok spec_l01Split_DD hc (by kernel_rfl) (fun K hK => ?_); simp only [ea, gv, sv, reduceCtorEq, reduceIte, Nat.reduceBEq, Nat.reduceAdd, Nat.reduceEqDiff, Nat.reduceLT, Nat.reduceLeDiff, Nat.reduceMul, Nat.reduceSub, BEq.rfl, beq_self_eq_true, Int.reduceToNat]
  (refine hK _ ?_)
  clear hK K
  refine AWP.seq ?_
  refine AWP.seq ?_
  refine AWP.regS G_ok spec_l01Split_DD hc (by kernel_rfl) (fun K hK => ?_); simp only [ea, gv, sv, reduceCtorEq, reduceIte, Nat.reduceBEq, Nat.reduceAdd, Nat.reduceEqDiff, Nat.reduceLT, Nat.reduceLeDiff, Nat.reduceMul, Nat.reduceSub, BEq.rfl, beq_self_eq_true, Int.reduceToNat]
  (refine hK _ ?_)
  clear hK K
  refine AWP.block ?_
  generalize hz1 : loopR (spec_l01Split_b1 a0 a1) (a0.length - 0) 0 (0, ([] : List (List UInt8))) = z1 at hR
  refine AWP.range (spec_l01Split_b1 a0 a1) (fun i1 s1 => ⟨[(0, .str a0), (1, .int .u8 a1), (5, .ref 0 1 0 s1.2.length), (6, .int .i64 s1.1), (7, .int .i64 (i1 : Int))], [.arr 9 1 s1.2.length (fun j => eS (s1.2.getD j default))]⟩) (fun i1 s1 => s1.2.length ≤ ([] : List (List UInt8)).length + 1 * i1 ∧ 0 ≤ s1.1 ∧ s1.1 ≤ i1 ∧ s1.2.length ≤ i1) (a0.length) 0 (0, ([] : List (List UInt8))) [0] hz1 (by (omega)) (by (trivial)) (by (simp only [si, ea, gv, sv, hk, reduceCtorEq, reduceIte, Nat.reduceBEq, Nat.reduceAdd, Nat.reduceEqDiff, Nat.reduceLT, Nat.reduceLeDiff, Nat.reduceMul, Nat.reduceSub, BEq.rfl, beq_self_eq_true, Int.reduceToNat]; trivial)) ?_
  clear hz1
  intro i1 s1 hi1 hW1 hz1
  refine AWP.seq ?_
  refine AWP.seq ?_
  refine AWP.regS G_ok spec_l01Split_DD hc (by kernel_rfl) (fun K hK => ?_); simp only [ea, gv, sv, reduceCtorEq, reduceIte, Nat.reduceBEq, Nat.reduceAdd, Nat.reduceEqDiff, Nat.reduceLT, Nat.reduceLeDiff, Nat.reduceMul, Nat.reduceSub, BEq.rfl, beq_self_eq_true, Int.reduceToNat]
  (refine hK _ ?_)
  clear hK K
  refine AWP.cond rfl (fun hb => ?_) (fun hb => ?_)
  · have hlt1 : i1 < a0.length := by ((simp only [ob, ln, bdv, sv] at *; omega))
    rw [loopR_lt hlt1] at hz1; simp only [spec_l01Split_b1] at hz1
    refine AWP.skip ?_
    refine AWP.seq ?_
    refine AWP.block ?_
    refine AWP.seq ?_
    refine AWP.regS G_ok spec_l01Split_DD hc (by kernel_rfl) (fun K hK => ?_); simp only [ea, gv, sv, reduceCtorEq, reduceIte, Nat.reduceBEq, Nat.reduceAdd, Nat.reduceEqDiff, Nat.reduceLT, Nat.reduceLeDiff, Nat.reduceMul, Nat.reduceSub, BEq.rfl, beq_self_eq_true, Int.reduceToNat]
    (refine ⟨by (omega), hK _ ?_⟩)
    clear hK K
    refine AWP.cond rfl (fun hb => ?_) (fun hb => ?_)
    · (simp only [hb, cond_true] at hz1)
      refine AWP.seq ?_
      refine AWP.regS G_ok spec_l01Split_DD hc (by kernel_rfl) (fun K hK => ?_); simp only [ea, gv, sv, reduceCtorEq, reduceIte, Nat.reduceBEq, Nat.reduceAdd, Nat.reduceEqDiff, Nat.reduceLT, Nat.reduceLeDiff, Nat.reduceMul, Nat.reduceSub, BEq.rfl, beq_self_eq_true, Int.reduceToNat]
      (refine ⟨by (omega), hK _ ?_⟩)
      clear hK K
      refine AWP.regS G_ok spec_l01Split_DD hc (by kernel_rfl) (fun K hK => ?_); simp only [ea, gv, sv, reduceCtorEq, reduceIte, Nat.reduceBEq, Nat.reduceAdd, Nat.reduceEqDiff, Nat.reduceLT, Nat.reduceLeDiff, Nat.reduceMul, Nat.reduceSub, BEq.rfl, beq_self_eq_true, Int.reduceToNat]
      (refine hK _ ?_)
      clear hK K
      refine AWP.regS G_ok spec_l01Split_DD hc (by kernel_rfl) (fun K hK => ?_); simp only [ea, gv, sv, reduceCtorEq, reduceIte, Nat.reduceBEq, Nat.reduceAdd, Nat.reduceEqDiff, Nat.reduceLT, Nat.reduceLeDiff, Nat.reduceMul, Nat.reduceSub, BEq.rfl, beq_self_eq_true, Int.reduceToNat]
      (refine hK _ ?_)
      clear hK K
      exact ⟨_, [2], hlt1, by ((and_intros <;> simp only [ob, ln] at * <;> omega)), hz1, by (simp only [si, ea, gv, sv, hk, reduceCtorEq, reduceIte, Nat.reduceBEq, Nat.reduceAdd, Nat.reduceEqDiff, Nat.reduceLT, Nat.reduceLeDiff, Nat.reduceMul, Nat.reduceSub, BEq.rfl, beq_self_eq_true, Int.reduceToNat]; (and_intros <;> first | trivial | (rw [IntKind.wrap_i64]; omega) | (simp only [ln]; done) | (intro j hj; simp only [pw, Bool.cond_eq_ite, Bool.and_eq_true, decide_eq_true_eq]; (try rw [subL_getD _ _ _ _ (by assumption)]); (try rw [clearL_getD _ _ _ _ (by omega)]); (repeat' split) <;> first | rfl | omega)))⟩
    · (simp only [hb, cond_false] at hz1)
      refine AWP.skip ?_
      refine AWP.regS G_ok spec_l01Split_DD hc (by kernel_rfl) (fun K hK => ?_); simp only [ea, gv, sv, reduceCtorEq, reduceIte, Nat.reduceBEq, Nat.reduceAdd, Nat.reduceEqDiff, Nat.reduceLT, Nat.reduceLeDiff, Nat.reduceMul, Nat.reduceSub, BEq.rfl, beq_self_eq_true, Int.reduceToNat]
      (refine hK _ ?_)
      clear hK K
      exact ⟨_, [0], hlt1, by ((and_intros <;> simp only [ln] <;> omega)), hz1, by (simp only [si, ea, gv, sv, hk, reduceCtorEq, reduceIte, Nat.reduceBEq, Nat.reduceAdd, Nat.reduceEqDiff, Nat.reduceLT, Nat.reduceLeDiff, Nat.reduceMul, Nat.reduceSub, BEq.rfl, beq_self_eq_true, Int.reduceToNat]; (and_intros <;> first | trivial | (rw [IntKind.wrap_i64]; omega)))⟩
  · obtain rfl : i1 = a0.length := by ((simp only [ob, ln, bdv, sv] at *; omega))
    rw [loopR_ge (Nat.le_refl _)] at hz1; subst hz1; dsimp only at hR
    refine AWP.exit ?_; refine exitTo_here ?_
    refine AWP.seq ?_
    refine AWP.regS G_ok spec_l01Split_DD hc (by kernel_rfl) (fun K hK => ?_); simp only [ea, gv, sv, reduceCtorEq, reduceIte, Nat.reduceBEq, Nat.reduceAdd, Nat.reduceEqDiff, Nat.reduceLT, Nat.reduceLeDiff, Nat.reduceMul, Nat.reduceSub, BEq.rfl, beq_self_eq_true, Int.reduceToNat]
    (refine ⟨by (omega), hK _ ?_⟩)
    clear hK K
    refine AWP.ret ?_
    subst hR
    (simp only [en, si, ea, gv, sv, hk, reduceCtorEq, reduceIte, Nat.reduceBEq, Nat.reduceAdd, Nat.reduceEqDiff, Nat.reduceLT, Nat.reduceLeDiff, Nat.reduceMul, Nat.reduceSub, BEq.rfl, beq_self_eq_true, Int.reduceToNat]; (and_intros <;> first | omega | (simp only [ln]; done) | (left; and_intros <;> (intro j hj; simp only [pw, Bool.cond_eq_ite, Bool.and_eq_true, decide_eq_true_eq]; (repeat' split) <;> simp [putL, borrowL, borrow, NoBorL, NoBor])) | (intro j hj; simp only [pw, Bool.cond_eq_ite]; (repeat' split) <;> (simp [pureL, pureV, borrowL, borrow, NoBorL, NoBor]; done)) | (intro j hj; simp only [pw, Bool.cond_eq_ite, Bool.and_eq_true, decide_eq_true_eq]; (try rw [subL_getD _ _ _ _ (by assumption)]); (try rw [clearL_getD _ _ _ _ (by omega)]); (repeat' split) <;> first | omega | exact simOL_refl _)))
def D_spec_l01Split : DF
  | [x0, x1] => some (ownL 9 1 eS (spec_l01Split (rdS x0) (rdI x1)), false, [wS x0, wI .u8 x1, (rdS x0).length < 1099511627776, (rdS x0).length ≤ 1048576])
  | _ => none
def Dz_spec_l01Split : DF
  | [x0, x1] => some (ownL 9 1 eS (spec_l01Split (rdS x0) (rdI x1)), true, [wS x0, wI .u8 x1, (rdS x0).length < 1099511627776, (rdS x0).length ≤ 1048576])
  | _ => none
theorem D_spec_l01Split_ok : OkD Tryz.prog 80 D_spec_l01Split := by
  intro xs r z ob h ho
  unfold D_spec_l01Split at h
  split at h
  · simp only [Option.some.injEq, Prod.mk.injEq] at h
    obtain ⟨rfl, rfl, rfl⟩ := h
    obtain ⟨h0, h1, hb0, hp0, _⟩ := ho
    exact Den.sim (spec_l01Split_den _ _ hb0 hp0) (simOL_cons (wS_sim h0).1 <| simOL_cons (wI_sim h1).1 <| trivial) (noIdL_cons (wS_sim h0).2 <| noIdL_cons (wI_sim h1).2 <| rfl) rfl
  · cases h
theorem Dz_spec_l01Split_ok : OkD Tryz.prog 80 Dz_spec_l01Split := by
  intro xs r z ob h ho
  unfold Dz_spec_l01Split at h
  split at h
  · simp only [Option.some.injEq, Prod.mk.injEq] at h
    obtain ⟨rfl, rfl, rfl⟩ := h
    obtain ⟨h0, h1, hb0, hp0, _⟩ := ho
    exact Den.sim (spec_l01Split_den _ _ hb0 hp0) (simOL_cons (wS_sim h0).1 <| simOL_cons (wI_sim h1).1 <| trivial) (noIdL_cons (wS_sim h0).2 <| noIdL_cons (wI_sim h1).2 <| rfl) rfl
  · cases h
end Go.Ab

namespace Go.Ab
open Go Go.Proofs
theorem l01Split_loop (a : List UInt8) (c : UInt8) (ha : a.length ≤ 1099511627776) : ∀ (k i f : Nat) (out : List (List UInt8)), i + k = a.length → f ≤ i → (∀ j, f ≤ j → j < i → a.getD j 0 ≠ c) →
    ∃ s : Int × List (List UInt8), loopR (spec_l01Split_b1 a c.toNat) k i ((f : Int), out) = .ok s ∧ s.2 ++ [(a.take a.length).drop s.1.toNat] = out ++ splitC c (a.drop f)
  | 0, i, f, out, hk, hf, hn => by
    refine ⟨_, rfl, ?_⟩
    simp only [Int.toNat_natCast, List.take_length]
    rw [splitC_none]
    intro hc
    obtain ⟨j, hj⟩ := List.getElem?_of_mem hc
    rw [List.getElem?_drop] at hj
    have hlt := (List.getElem?_eq_some_iff.1 hj).1
    refine hn (f + j) (by omega) (by omega) ?_
    rw [List.getD_eq_getElem?_getD, hj]; rfl
  | k + 1, i, f, out, hk, hf, hn => by
    have hlt : i < a.length := by omega
    simp only [loopR, spec_l01Split_b1]
    by_cases hc : a.getD i 0 = c
    · have hb : (((a.getD i 0).toNat : Int) == (c.toNat : Int)) = true := by rw [hc]; simp
      simp only [hb, cond_true, Int.toNat_natCast]
      have hw : IntKind.wrap .i64 ((i : Int) + 1) = ((i + 1 : Nat) : Int) := by rw [IntKind.wrap_i64]; omega
      rw [hw]
      obtain ⟨s, h1, h2⟩ := l01Split_loop a c ha k (i + 1) (i + 1) (out ++ [(a.take i).drop f]) (by omega) (Nat.le_refl _) (fun j h1 h2 => by omega)
      refine ⟨s, h1, ?_⟩
      rw [h2, List.append_assoc]
      congr 1
      have he : a.drop f = (a.take i).drop f ++ c :: a.drop (i + 1) := by
        have h3 : a = a.take i ++ c :: a.drop (i + 1) := by
          conv => lhs; rw [← List.take_append_drop i a]
          rw [List.drop_eq_getElem_cons hlt]
          congr 2
          rw [← hc, List.getD_eq_getElem?_getD, List.getElem?_eq_getElem hlt]; rfl
        conv => lhs; rw [h3]
        rw [List.drop_append_of_le_length (by simp; omega)]
      rw [he, splitC_cons]
      · rfl
      · intro hm
        obtain ⟨j, hj⟩ := List.getElem?_of_mem hm
        rw [List.getElem?_drop] at hj
        have hl := (List.getElem?_eq_some_iff.1 hj).1
        simp only [List.length_take] at hl
        rw [List.getElem?_take_of_lt (by omega)] at hj
        refine hn (f + j) (by omega) (by omega) ?_
        rw [List.getD_eq_getElem?_getD, hj]; rfl
    · have hb : (((a.getD i 0).toNat : Int) == (c.toNat : Int)) = false := by
        simp only [beq_eq_false_iff_ne]
        intro h
        exact hc (UInt8.toNat_inj.1 (by omega))
      simp only [hb, cond_false]
      exact l01Split_loop a c ha k (i + 1) f out (by omega) (by omega) (fun j h1 h2 => by
        by_cases hji : j = i
        · subst hji; exact hc
        · exact hn j h1 (by omega))
theorem spec_l01Split_eq (a : List UInt8) (c : UInt8) (ha : a.length ≤ 1099511627776) : spec_l01Split a c.toNat = splitC c a := by
  obtain ⟨s, h1, h2⟩ := l01Split_loop a c ha a.length 0 0 [] (by omega) (Nat.le_refl _) (fun j h1 h2 => by omega)
  unfold spec_l01Split
  simp only [Nat.sub_zero]
  rw [show ((0 : Int), ([] : List (List UInt8))) = (((0 : Nat) : Int), []) from rfl, h1]
  simpa using h2
theorem spec_l01Split_len (a : List UInt8) (ha : a.length ≤ 1048576) : ∀ x ∈ spec_l01Split a 32, x.length ≤ 1048576 := by
  intro x hx
  rw [show (32 : Int) = (((32 : UInt8).toNat : Nat) : Int) from rfl, spec_l01Split_eq a 32 (by omega)] at hx
  have := (splitC_len 32 a).2 x hx
  omega
end Go.Ab

namespace Go.Ab
open Go Go.Proofs
theorem impl_isDigit_DD : DOk Tryz.prog (DD []) := DD_nil _
def impl_isDigit (a0 : Int) : Bool :=
  (decide (48 ≤ a0) && decide (a0 ≤ 57))
theorem impl_isDigit_den (a0 : Int)  : Den Tryz.prog 113 [.int .u8 a0] (.bool (impl_isDigit a0)) := by
  generalize hR : impl_isDigit a0 = r
  unfold impl_isDigit at hR
  refine den_intro G_ok Tryz.func113 (by kernel_rfl) rfl Tryz.ntmps113 (by rw [Tryz.results113]) (by simp) rfl ?_
  intro c hL hc hk
  clear hL
  simp only [pars, Nat.zero_add]
  refine AWP.seq ?_
  refine AWP.regS G_ok impl_isDigit_DD hc (by kernel_rfl) (fun K hK => ?_); simp only [ea, gv, sv, reduceCtorEq, reduceIte, Nat.reduceBEq, Nat.reduceAdd, Nat.reduceEqDiff, Nat.reduceLT, Nat.reduceLeDiff, Nat.reduceMul, Nat.reduceSub, BEq.rfl, beq_self_eq_true, Int.reduceToNat]
  (refine hK _ ?_)
  clear hK K
  refine AWP.seq ?_
  refine AWP.regS G_ok impl_isDigit_DD hc (by kernel_rfl) (fun K hK => ?_); simp only [ea, gv, sv, reduceCtorEq, reduceIte, Nat.reduceBEq, Nat.reduceAdd, Nat.reduceEqDiff, Nat.reduceLT, Nat.reduceLeDiff, Nat.reduceMul, Nat.reduceSub, BEq.rfl, beq_self_eq_true, Int.reduceToNat]
  (refine hK _ ?_)
  clear hK K
  refine AWP.ret ?_
  subst hR
  (simp only [en, si, ea, gv, sv, hk, reduceCtorEq, reduceIte, Nat.reduceBEq, Nat.reduceAdd, Nat.reduceEqDiff, Nat.reduceLT, Nat.reduceLeDiff, Nat.reduceMul, Nat.reduceSub, BEq.rfl, beq_self_eq_true, Int.reduceToNat]; done)
def D_impl_isDigit : DF
  | [x0] => some (.bool (impl_isDigit (rdI x0)), false, [wI .u8 x0])
  | _ => none
theorem D_impl_isDigit_ok : OkD Tryz.prog 113 D_impl_isDigit := by
  intro xs r z ob h ho
  unfold D_impl_isDigit at h
  split at h
  · simp only [Option.some.injEq, Prod.mk.injEq] at h
    obtain ⟨rfl, rfl, rfl⟩ := h
    obtain ⟨h0, _⟩ := ho
    exact Den.sim (impl_isDigit_den _ ) (simOL_cons (wI_sim h0).1 <| trivial) (noIdL_cons (wI_sim h0).2 <| rfl) rfl
  · cases h
end Go.Ab

namespace Go.Ab
open Go Go.Proofs
theorem impl_few_DD : DOk Tryz.prog (DD []) := DD_nil _
def impl_few (a0 : Int) (a1 : Int) : Bool :=
  decide (a0 ≤ a1)
theorem impl_few_den (a0 : Int) (a1 : Int)  : Den Tryz.prog 77 [.int .i64 a0, .int .i64 a1] (.bool (impl_few a0 a1)) := by
  generalize hR : impl_few a0 a1 = r
  unfold impl_few at hR
  refine den_intro G_ok Tryz.func77 (by kernel_rfl) rfl Tryz.ntmps77 (by rw [Tryz.results77]) (by simp) rfl ?_
  intro c hL hc hk
  clear hL
  simp only [pars, Nat.zero_add]
  refine AWP.seq ?_
  refine AWP.regS G_ok impl_few_DD hc (by kernel_rfl) (fun K hK => ?_); simp only [ea, gv, sv, reduceCtorEq, reduceIte, Nat.reduceBEq, Nat.reduceAdd, Nat.reduceEqDiff, Nat.reduceLT, Nat.reduceLeDiff, Nat.reduceMul, Nat.reduceSub, BEq.rfl, beq_self_eq_true, Int.reduceToNat]
  (refine hK _ ?_)
  clear hK K
  refine AWP.seq ?_
  refine AWP.regS G_ok impl_few_DD hc (by kernel_rfl) (fun K hK => ?_); simp only [ea, gv, sv, reduceCtorEq, reduceIte, Nat.reduceBEq, Nat.reduceAdd, Nat.reduceEqDiff, Nat.reduceLT, Nat.reduceLeDiff, Nat.reduceMul, Nat.reduceSub, BEq.rfl, beq_self_eq_true, Int.reduceToNat]
  (refine hK _ ?_)
  clear hK K
  refine AWP.ret ?_
  subst hR
  (simp only [en, si, ea, gv, sv, hk, reduceCtorEq, reduceIte, Nat.reduceBEq, Nat.reduceAdd, Nat.reduceEqDiff, Nat.reduceLT, Nat.reduceLeDiff, Nat.reduceMul, Nat.reduceSub, BEq.rfl, beq_self_eq_true, Int.reduceToNat]; done)
def D_impl_few : DF
  | [x0, x1] => some (.bool (impl_few (rdI x0) (rdI x1)), false, [wI .i64 x0, wI .i64 x1])
  | _ => none
theorem D_impl_few_ok : OkD Tryz.prog 77 D_impl_few := by
  intro xs r z ob h ho
  unfold D_impl_few at h
  split at h
  · simp only [Option.some.injEq, Prod.mk.injEq] at h
    obtain ⟨rfl, rfl, rfl⟩ := h
    obtain ⟨h0, h1, _⟩ := ho
    exact Den.sim (impl_few_den _ _ ) (simOL_cons (wI_sim h0).1 <| simOL_cons (wI_sim h1).1 <| trivial) (noIdL_cons (wI_sim h0).2 <| noIdL_cons (wI_sim h1).2 <| rfl) rfl
  · cases h
end Go.Ab

namespace Go.Ab
open Go Go.Proofs
theorem impl_IsName_DD : DOk Tryz.prog (DD [(113, dP D_impl_isDigit), (77, dP D_impl_few)]) := DD_cons D_impl_isDigit_ok.e <| DD_cons D_impl_few_ok.e <| DD_nil _
def impl_IsName_b1 (a0 : (List UInt8)) (i1 : Nat) (s1 : Unit) : Except (Bool) (Unit) :=
  (bif ((!(decide (97 ≤ ((a0.getD i1 0).toNat : Int)) && decide (((a0.getD i1 0).toNat : Int) ≤ 122))) && (((i1 : Int) == 0) || (!(impl_isDigit ((a0.getD i1 0).toNat : Int))))) then .error false else .ok ())
def impl_IsName (a0 : (List UInt8)) : Bool :=
  (match loopR (impl_IsName_b1 a0) (a0.length - 0) 0 () with | .error e => e | .ok s1 => ((a0 != []) && (impl_few (a0.length : Int) 10)))
theorem impl_IsName_den (a0 : (List UInt8))  : Den Tryz.prog 67 [.str a0] (.bool (impl_IsName a0)) := by
  generalize hR : impl_IsName a0 = r
  unfold impl_IsName at hR
  refine den_intro G_ok Tryz.func67 (by kernel_rfl) rfl Tryz.ntmps67 (by rw [Tryz.results67]) (by simp) rfl ?_
  intro c hL hc hk
  obtain ⟨hL0, _⟩ := hL
  have hw0 : a0.length < 9223372036854775808 := Nat.lt_succ_of_le hL0
  clear hL0
  simp only [pars, Nat.zero_add]
  refine AWP.seq ?_
  refine AWP.regS G_ok impl_IsName_DD hc (by kernel_rfl) (fun K hK => ?_); simp only [ea, gv, sv, D_impl_isDigit, D_impl_few, reduceCtorEq, reduceIte, Nat.reduceBEq, Nat.reduceAdd, Nat.reduceEqDiff, Nat.reduceLT, Nat.reduceLeDiff, Nat.reduceMul, Nat.reduceSub, BEq.rfl, beq_self_eq_true, Int.reduceToNat]
  (refine hK _ ?_)
  clear hK K
  refine AWP.seq ?_
  refine AWP.seq ?_
  refine AWP.regS G_ok impl_IsName_DD hc (by kernel_rfl) (fun K hK => ?_); simp only [ea, gv, sv, D_impl_isDigit, D_impl_few, reduceCtorEq, reduceIte, Nat.reduceBEq, Nat.reduceAdd, Nat.reduceEqDiff, Nat.reduceLT, Nat.reduceLeDiff, Nat.reduceMul, Nat.reduceSub, BEq.rfl, beq_self_eq_true, Int.reduceToNat]
  (refine hK _ ?_)
  clear hK K
  refine AWP.block ?_
  generalize hz1 : loopR (impl_IsName_b1 a0) (a0.length - 0) 0 () = z1 at hR
  refine AWP.range (impl_IsName_b1 a0) (fun i1 s1 => ⟨[(0, .str a0), (3, .int .i64 (i1 : Int))], []⟩) (fun i1 s1 => True) (a0.length) 0 () [] hz1 (by (omega)) (by (trivial)) (by (simp only [si, ea, gv, sv, hk, reduceCtorEq, reduceIte, Nat.reduceBEq, Nat.reduceAdd, Nat.reduceEqDiff, Nat.reduceLT, Nat.reduceLeDiff, Nat.reduceMul, Nat.reduceSub, BEq.rfl, beq_self_eq_true, Int.reduceToNat]; trivial)) ?_
  clear hz1
  intro i1 s1 hi1 hW1 hz1
  refine AWP.seq ?_
  refine AWP.seq ?_
  refine AWP.regS G_ok impl_IsName_DD hc (by kernel_rfl) (fun K hK => ?_); simp only [ea, gv, sv, D_impl_isDigit, D_impl_few, reduceCtorEq, reduceIte, Nat.reduceBEq, Nat.reduceAdd, Nat.reduceEqDiff, Nat.reduceLT, Nat.reduceLeDiff, Nat.reduceMul, Nat.reduceSub, BEq.rfl, beq_self_eq_true, Int.reduceToNat]
  (refine hK _ ?_)
  clear hK K
  refine AWP.cond rfl (fun hb => ?_) (fun hb => ?_)
  · have hlt1 : i1 < a0.length := by ((simp only [ob, ln, bdv, sv] at *; omega))
    rw [loopR_lt hlt1] at hz1; simp only [impl_IsName_b1] at hz1
    refine AWP.skip ?_
    refine AWP.seq ?_
    refine AWP.block ?_
    refine AWP.seq ?_
    refine AWP.regS G_ok impl_IsName_DD hc (by kernel_rfl) (fun K hK => ?_); simp only [ea, gv, sv, D_impl_isDigit, D_impl_few, reduceCtorEq, reduceIte, Nat.reduceBEq, Nat.reduceAdd, Nat.reduceEqDiff, Nat.reduceLT, Nat.reduceLeDiff, Nat.reduceMul, Nat.reduceSub, BEq.rfl, beq_self_eq_true, Int.reduceToNat]
    (refine ⟨by (omega), hK _ ?_⟩)
    clear hK K
    refine AWP.seq ?_
    refine AWP.regS G_ok impl_IsName_DD hc (by kernel_rfl) (fun K hK => ?_); simp only [ea, gv, sv, D_impl_isDigit, D_impl_few, reduceCtorEq, reduceIte, Nat.reduceBEq, Nat.reduceAdd, Nat.reduceEqDiff, Nat.reduceLT, Nat.reduceLeDiff, Nat.reduceMul, Nat.reduceSub, BEq.rfl, beq_self_eq_true, Int.reduceToNat]
    (refine ⟨by (omega), hK _ ?_⟩)
    clear hK K
    refine AWP.cond rfl (fun hb => ?_) (fun hb => ?_)
    · (simp only [hb, cond_true] at hz1)
      refine AWP.seq ?_
      refine AWP.regS G_ok impl_IsName_DD hc (by kernel_rfl) (fun K hK => ?_); simp only [ea, gv, sv, D_impl_isDigit, D_impl_few, reduceCtorEq, reduceIte, Nat.reduceBEq, Nat.reduceAdd, Nat.reduceEqDiff, Nat.reduceLT, Nat.reduceLeDiff, Nat.reduceMul, Nat.reduceSub, BEq.rfl, beq_self_eq_true, Int.reduceToNat]
      (refine hK _ ?_)
      clear hK K
      refine AWP.ret ?_
      subst hz1
      dsimp only at hR
      subst hR
      (simp only [en, si, ea, gv, sv, hk, reduceCtorEq, reduceIte, Nat.reduceBEq, Nat.reduceAdd, Nat.reduceEqDiff, Nat.reduceLT, Nat.reduceLeDiff, Nat.reduceMul, Nat.reduceSub, BEq.rfl, beq_self_eq_true, Int.reduceToNat]; done)
    · (simp only [hb, cond_false] at hz1)
      refine AWP.skip ?_
      refine AWP.regS G_ok impl_IsName_DD hc (by kernel_rfl) (fun K hK => ?_); simp only [ea, gv, sv, D_impl_isDigit, D_impl_few, reduceCtorEq, reduceIte, Nat.reduceBEq, Nat.reduceAdd, Nat.reduceEqDiff, Nat.reduceLT, Nat.reduceLeDiff, Nat.reduceMul, Nat.reduceSub, BEq.rfl, beq_self_eq_true, Int.reduceToNat]
      (refine hK _ ?_)
      clear hK K
      exact ⟨_, [], hlt1, by (trivial), hz1, by (simp only [si, ea, gv, sv, hk, reduceCtorEq, reduceIte, Nat.reduceBEq, Nat.reduceAdd, Nat.reduceEqDiff, Nat.reduceLT, Nat.reduceLeDiff, Nat.reduceMul, Nat.reduceSub, BEq.rfl, beq_self_eq_true, Int.reduceToNat]; (and_intros <;> first | trivial | (rw [IntKind.wrap_i64]; omega)))⟩
  · obtain rfl : i1 = a0.length := by ((simp only [ob, ln, bdv, sv] at *; omega))
    rw [loopR_ge (Nat.le_refl _)] at hz1; subst hz1; dsimp only at hR
    refine AWP.exit ?_; refine exitTo_here ?_
    refine AWP.seq ?_
    refine AWP.regS G_ok impl_IsName_DD hc (by kernel_rfl) (fun K hK => ?_); simp only [ea, gv, sv, D_impl_isDigit, D_impl_few, reduceCtorEq, reduceIte, Nat.reduceBEq, Nat.reduceAdd, Nat.reduceEqDiff, Nat.reduceLT, Nat.reduceLeDiff, Nat.reduceMul, Nat.reduceSub, BEq.rfl, beq_self_eq_true, Int.reduceToNat]
    (refine hK _ ?_)
    clear hK K
    refine AWP.ret ?_
    subst hR
    (simp only [en, si, ea, gv, sv, hk, reduceCtorEq, reduceIte, Nat.reduceBEq, Nat.reduceAdd, Nat.reduceEqDiff, Nat.reduceLT, Nat.reduceLeDiff, Nat.reduceMul, Nat.reduceSub, BEq.rfl, beq_self_eq_true, Int.reduceToNat]; done)
def D_impl_IsName : DF
  | [x0] => some (.bool (impl_IsName (rdS x0)), false, [wS x0])
  | _ => none
theorem D_impl_IsName_ok : OkD Tryz.prog 67 D_impl_IsName := by
  intro xs r z ob h ho
  unfold D_impl_IsName at h
  split at h
  · simp only [Option.some.injEq, Prod.mk.injEq] at h
    obtain ⟨rfl, rfl, rfl⟩ := h
    obtain ⟨h0, _⟩ := ho
    exact Den.sim (impl_IsName_den _ ) (simOL_cons (wS_sim h0).1 <| trivial) (noIdL_cons (wS_sim h0).2 <| rfl) rfl
  · cases h
end Go.Ab

namespace Go.Ab
open Go Go.Proofs
theorem spec_l01Small_DD : DOk Tryz.prog (DD []) := DD_nil _
def spec_l01Small (a0 : Int) : Bool :=
  (decide (97 ≤ a0) && decide (a0 ≤ 122))
theorem spec_l01Small_den (a0 : Int)  : Den Tryz.prog 173 [.int .u8 a0] (.bool (spec_l01Small a0)) := by
  generalize hR : spec_l01Small a0 = r
  unfold spec_l01Small at hR
  refine den_intro G_ok Tryz.func173 (by kernel_rfl) rfl Tryz.ntmps173 (by rw [Tryz.results173]) (by simp) rfl ?_
  intro c hL hc hk
  clear hL
  simp only [pars, Nat.zero_add]
  refine AWP.seq ?_
  refine AWP.regS G_ok spec_l01Small_DD hc (by kernel_rfl) (fun K hK => ?_); simp only [ea, gv, sv, reduceCtorEq, reduceIte, Nat.reduceBEq, Nat.reduceAdd, Nat.reduceEqDiff, Nat.reduceLT, Nat.reduceLeDiff, Nat.reduceMul, Nat.reduceSub, BEq.rfl, beq_self_eq_true, Int.reduceToNat]
  (refine hK _ ?_)
  clear hK K
  refine AWP.seq ?_
  refine AWP.regS G_ok spec_l01Small_DD hc (by kernel_rfl) (fun K hK => ?_); simp only [ea, gv, sv, reduceCtorEq, reduceIte, Nat.reduceBEq, Nat.reduceAdd, Nat.reduceEqDiff, Nat.reduceLT, Nat.reduceLeDiff, Nat.reduceMul, Nat.reduceSub, BEq.rfl, beq_self_eq_true, Int.reduceToNat]
  (refine hK _ ?_)
  clear hK K
  refine AWP.ret ?_
  subst hR
  (simp only [en, si, ea, gv, sv, hk, reduceCtorEq, reduceIte, Nat.reduceBEq, Nat.reduceAdd, Nat.reduceEqDiff, Nat.reduceLT, Nat.reduceLeDiff, Nat.reduceMul, Nat.reduceSub, BEq.rfl, beq_self_eq_true, Int.reduceToNat]; done)
def D_spec_l01Small : DF
  | [x0] => some (.bool (spec_l01Small (rdI x0)), false, [wI .u8 x0])
  | _ => none
theorem D_spec_l01Small_ok : OkD Tryz.prog 173 D_spec_l01Small := by
  intro xs r z ob h ho
  unfold D_spec_l01Small at h
  split at h
  · simp only [Option.some.injEq, Prod.mk.injEq] at h
    obtain ⟨rfl, rfl, rfl⟩ := h
    obtain ⟨h0, _⟩ := ho
    exact Den.sim (spec_l01Small_den _ ) (simOL_cons (wI_sim h0).1 <| trivial) (noIdL_cons (wI_sim h0).2 <| rfl) rfl
  · cases h
end Go.Ab

namespace Go.Ab
open Go Go.Proofs
theorem spec_l01Name_DD : DOk Tryz.prog (DD [(122, dP D_spec_l01Digit), (173, dP D_spec_l01Small)]) := DD_cons D_spec_l01Digit_ok.e <| DD_cons D_spec_l01Small_ok.e <| DD_nil _
def spec_l01Name_b1 (a0 : (List UInt8)) (i1 : Nat) (s1 : Unit) : Except (Bool) (Unit) :=
  (bif ((!(spec_l01Small ((a0.getD i1 0).toNat : Int))) && (!(spec_l01Digit ((a0.getD i1 0).toNat : Int)))) then .error false else .ok ())
def spec_l01Name (a0 : (List UInt8)) : Bool :=
  (bif (((a0 == []) || decide (10 < (a0.length : Int))) || (!(spec_l01Small ((a0.getD 0 0).toNat : Int)))) then false else (match loopR (spec_l01Name_b1 a0) (a0.length - 0) 0 () with | .error e => e | .ok s1 => true))
theorem spec_l01Name_den (a0 : (List UInt8))  : Den Tryz.prog 124 [.str a0] (.bool (spec_l01Name a0)) := by
  generalize hR : spec_l01Name a0 = r
  unfold spec_l01Name at hR
  refine den_intro G_ok Tryz.func124 (by kernel_rfl) rfl Tryz.ntmps124 (by rw [Tryz.results124]) (by simp) rfl ?_
  intro c hL hc hk
  obtain ⟨hL0, _⟩ := hL
  have hw0 : a0.length < 9223372036854775808 := Nat.lt_succ_of_le hL0
  clear hL0
  simp only [pars, Nat.zero_add]
  refine AWP.seq ?_
  refine AWP.regS G_ok spec_l01Name_DD hc (by kernel_rfl) (fun K hK => ?_); simp only [ea, gv, sv, D_spec_l01Digit, D_spec_l01Small, reduceCtorEq, reduceIte, Nat.reduceBEq, Nat.reduceAdd, Nat.reduceEqDiff, Nat.reduceLT, Nat.reduceLeDiff, Nat.reduceMul, Nat.reduceSub, BEq.rfl, beq_self_eq_true, Int.reduceToNat]
  (refine hK _ ?_)
  clear hK K
  refine AWP.seq ?_
  refine AWP.seq ?_
  refine AWP.regS G_ok spec_l01Name_DD hc (by kernel_rfl) (fun K hK => ?_); simp only [ea, gv, sv, D_spec_l01Digit, D_spec_l01Small, reduceCtorEq, reduceIte, Nat.reduceBEq, Nat.reduceAdd, Nat.reduceEqDiff, Nat.reduceLT, Nat.reduceLeDiff, Nat.reduceMul, Nat.reduceSub, BEq.rfl, beq_self_eq_true, Int.reduceToNat]
  (refine ⟨by ((simp only [ob, ln, bdv, sv] at *; omega)), hK _ ?_⟩)
  clear hK K
  refine AWP.cond rfl (fun hb => ?_) (fun hb => ?_)
  · (simp only [hb, cond_true] at hR)
    refine AWP.seq ?_
    refine AWP.regS G_ok spec_l01Name_DD hc (by kernel_rfl) (fun K hK => ?_); simp only [ea, gv, sv, D_spec_l01Digit, D_spec_l01Small, reduceCtorEq, reduceIte, Nat.reduceBEq, Nat.reduceAdd, Nat.reduceEqDiff, Nat.reduceLT, Nat.reduceLeDiff, Nat.reduceMul, Nat.reduceSub, BEq.rfl, beq_self_eq_true, Int.reduceToNat]
    (refine hK _ ?_)
    clear hK K
    refine AWP.ret ?_
    subst hR
    (simp only [en, si, ea, gv, sv, hk, reduceCtorEq, reduceIte, Nat.reduceBEq, Nat.reduceAdd, Nat.reduceEqDiff, Nat.reduceLT, Nat.reduceLeDiff, Nat.reduceMul, Nat.reduceSub, BEq.rfl, beq_self_eq_true, Int.reduceToNat]; done)
  · (simp only [hb, cond_false] at hR)
    refine AWP.skip ?_
    refine AWP.seq ?_
    refine AWP.seq ?_
    refine AWP.regS G_ok spec_l01Name_DD hc (by kernel_rfl) (fun K hK => ?_); simp only [ea, gv, sv, D_spec_l01Digit, D_spec_l01Small, reduceCtorEq, reduceIte, Nat.reduceBEq, Nat.reduceAdd, Nat.reduceEqDiff, Nat.reduceLT, Nat.reduceLeDiff, Nat.reduceMul, Nat.reduceSub, BEq.rfl, beq_self_eq_true, Int.reduceToNat]
    (refine hK _ ?_)
    clear hK K
    refine AWP.block ?_
    generalize hz1 : loopR (spec_l01Name_b1 a0) (a0.length - 0) 0 () = z1 at hR
    refine AWP.range (spec_l01Name_b1 a0) (fun i1 s1 => ⟨[(0, .str a0), (3, .int .i64 (i1 : Int))], []⟩) (fun i1 s1 => True) (a0.length) 0 () [] hz1 (by (omega)) (by (trivial)) (by (simp only [si, ea, gv, sv, hk, reduceCtorEq, reduceIte, Nat.reduceBEq, Nat.reduceAdd, Nat.reduceEqDiff, Nat.reduceLT, Nat.reduceLeDiff, Nat.reduceMul, Nat.reduceSub, BEq.rfl, beq_self_eq_true, Int.reduceToNat]; trivial)) ?_
    clear hz1
    intro i1 s1 hi1 hW1 hz1
    refine AWP.seq ?_
    refine AWP.seq ?_
    refine AWP.regS G_ok spec_l01Name_DD hc (by kernel_rfl) (fun K hK => ?_); simp only [ea, gv, sv, D_spec_l01Digit, D_spec_l01Small, reduceCtorEq, reduceIte, Nat.reduceBEq, Nat.reduceAdd, Nat.reduceEqDiff, Nat.reduceLT, Nat.reduceLeDiff, Nat.reduceMul, Nat.reduceSub, BEq.rfl, beq_self_eq_true, Int.reduceToNat]
    (refine hK _ ?_)
    clear hK K
    refine AWP.cond rfl (fun hb => ?_) (fun hb => ?_)
    · have hlt1 : i1 < a0.length := by ((simp only [ob, ln, bdv, sv] at *; omega))
      rw [loopR_lt hlt1] at hz1; simp only [spec_l01Name_b1] at hz1
      refine AWP.skip ?_
      refine AWP.seq ?_
      refine AWP.block ?_
      refine AWP.seq ?_
      refine AWP.regS G_ok spec_l01Name_DD hc (by kernel_rfl) (fun K hK => ?_); simp only [ea, gv, sv, D_spec_l01Digit, D_spec_l01Small, reduceCtorEq, reduceIte, Nat.reduceBEq, Nat.reduceAdd, Nat.reduceEqDiff, Nat.reduceLT, Nat.reduceLeDiff, Nat.reduceMul, Nat.reduceSub, BEq.rfl, beq_self_eq_true, Int.reduceToNat]
      (refine ⟨by (omega), hK _ ?_⟩)
      clear hK K
      refine AWP.cond rfl (fun hb => ?_) (fun hb => ?_)
      · (simp only [hb, cond_true] at hz1)
        refine AWP.seq ?_
        refine AWP.regS G_ok spec_l01Name_DD hc (by kernel_rfl) (fun K hK => ?_); simp only [ea, gv, sv, D_spec_l01Digit, D_spec_l01Small, reduceCtorEq, reduceIte, Nat.reduceBEq, Nat.reduceAdd, Nat.reduceEqDiff, Nat.reduceLT, Nat.reduceLeDiff, Nat.reduceMul, Nat.reduceSub, BEq.rfl, beq_self_eq_true, Int.reduceToNat]
        (refine hK _ ?_)
        clear hK K
        refine AWP.ret ?_
        subst hz1
        dsimp only at hR
        subst hR
        (simp only [en, si, ea, gv, sv, hk, reduceCtorEq, reduceIte, Nat.reduceBEq, Nat.reduceAdd, Nat.reduceEqDiff, Nat.reduceLT, Nat.reduceLeDiff, Nat.reduceMul, Nat.reduceSub, BEq.rfl, beq_self_eq_true, Int.reduceToNat]; done)
      · (simp only [hb, cond_false] at hz1)
        refine AWP.skip ?_
        refine AWP.regS G_ok spec_l01Name_DD hc (by kernel_rfl) (fun K hK => ?_); simp only [ea, gv, sv, D_spec_l01Digit, D_spec_l01Small, reduceCtorEq, reduceIte, Nat.reduceBEq, Nat.reduceAdd, Nat.reduceEqDiff, Nat.reduceLT, Nat.reduceLeDiff, Nat.reduceMul, Nat.reduceSub, BEq.rfl, beq_self_eq_true, Int.reduceToNat]
        (refine hK _ ?_)
        clear hK K
        exact ⟨_, [], hlt1, by (trivial), hz1, by (simp only [si, ea, gv, sv, hk, reduceCtorEq, reduceIte, Nat.reduceBEq, Nat.reduceAdd, Nat.reduceEqDiff, Nat.reduceLT, Nat.reduceLeDiff, Nat.reduceMul, Nat.reduceSub, BEq.rfl, beq_self_eq_true, Int.reduceToNat]; (and_intros <;> first | trivial | (rw [IntKind.wrap_i64]; omega)))⟩
    · obtain rfl : i1 = a0.length := by ((simp only [ob, ln, bdv, sv] at *; omega))
      rw [loopR_ge (Nat.le_refl _)] at hz1; subst hz1; dsimp only at hR
      refine AWP.exit ?_; refine exitTo_here ?_
      refine AWP.seq ?_
      refine AWP.regS G_ok spec_l01Name_DD hc (by kernel_rfl) (fun K hK => ?_); simp only [ea, gv, sv, D_spec_l01Digit, D_spec_l01Small, reduceCtorEq, reduceIte, Nat.reduceBEq, Nat.reduceAdd, Nat.reduceEqDiff, Nat.reduceLT, Nat.reduceLeDiff, Nat.reduceMul, Nat.reduceSub, BEq.rfl, beq_self_eq_true, Int.reduceToNat]
      (refine hK _ ?_)
      clear hK K
      refine AWP.ret ?_
      subst hR
      (simp only [en, si, ea, gv, sv, hk, reduceCtorEq, reduceIte, Nat.reduceBEq, Nat.reduceAdd, Nat.reduceEqDiff, Nat.reduceLT, Nat.reduceLeDiff, Nat.reduceMul, Nat.reduceSub, BEq.rfl, beq_self_eq_true, Int.reduceToNat]; done)
def D_spec_l01Name : DF
  | [x0] => some (.bool (spec_l01Name (rdS x0)), false, [wS x0])
  | _ => none
theorem D_spec_l01Name_ok : OkD Tryz.prog 124 D_spec_l01Name := by
  intro xs r z ob h ho
  unfold D_spec_l01Name at h
  split at h
  · simp only [Option.some.injEq, Prod.mk.injEq] at h
    obtain ⟨rfl, rfl, rfl⟩ := h
    obtain ⟨h0, _⟩ := ho
    exact Den.sim (spec_l01Name_den _ ) (simOL_cons (wS_sim h0).1 <| trivial) (noIdL_cons (wS_sim h0).2 <| rfl) rfl
  · cases h
end Go.Ab

namespace Go.Ab
open Go Go.Proofs
theorem loopF_iff {b : Nat → Unit → Except Bool Unit} {n : Nat} {p : Nat → Bool} {x : Bool} (hb : ∀ j u, j < n → b j u = bif p j then .error false else .ok ()) :
    ((match loopR b (n - 0) 0 () with | .error e => e | .ok _ => x) = true) ↔ (∀ j, j < n → p j = false) ∧ x = true := by
  rw [loopR_any (b := b) p false (fun j u _ h => hb j u (by omega))]
  simp only [Nat.sub_zero, Nat.zero_add]
  cases h : (List.range n).any (fun j => p j) with
  | true =>
    simp only [cond_true]
    obtain ⟨j, h1, h2⟩ := List.any_eq_true.1 h
    constructor
    · intro h; cases h
    · rintro ⟨h3, _⟩; rw [h3 j (List.mem_range.1 h1)] at h2; cases h2
  | false =>
    simp only [cond_false]
    rw [List.any_eq_false] at h
    exact ⟨fun hx => ⟨fun j hj => by simpa using h j (List.mem_range.2 hj), hx⟩, fun hx => hx.2⟩
theorem isName_iff (a : List UInt8) : impl_IsName a = true ↔ a ≠ [] ∧ a.length ≤ 10 ∧ ∀ j, j < a.length → ((97 ≤ (a.getD j 0).toNat ∧ (a.getD j 0).toNat ≤ 122) ∨ (j ≠ 0 ∧ 48 ≤ (a.getD j 0).toNat ∧ (a.getD j 0).toNat ≤ 57)) := by
  unfold impl_IsName
  refine (loopF_iff (n := a.length) (p := fun j => _) (fun j u _ => by rfl)).trans ?_
  simp only [impl_few, impl_isDigit, Bool.and_eq_true, bne_iff_ne, decide_eq_true_eq]
  constructor
  · rintro ⟨h1, h2, h3⟩
    refine ⟨h2, by omega, fun j hj => ?_⟩
    have := h1 j hj
    simp [-List.getD_eq_getElem?_getD] at this
    omega
  · rintro ⟨h2, h3, h1⟩
    refine ⟨fun j hj => ?_, h2, by omega⟩
    have := h1 j hj
    simp [-List.getD_eq_getElem?_getD]
    omega
theorem l01Name_iff (a : List UInt8) : spec_l01Name a = true ↔ a ≠ [] ∧ a.length ≤ 10 ∧ ∀ j, j < a.length → ((97 ≤ (a.getD j 0).toNat ∧ (a.getD j 0).toNat ≤ 122) ∨ (j ≠ 0 ∧ 48 ≤ (a.getD j 0).toNat ∧ (a.getD j 0).toNat ≤ 57)) := by
  unfold spec_l01Name
  by_cases hn : a = []
  · subst hn; simp
  by_cases h10 : 10 < a.length
  · have : ((a == []) || decide (10 < (a.length : Int))) = true := by simp; right; omega
    rw [this]; simp; omega
  have hp : 0 < a.length := by cases a <;> simp_all
  have : ((a == []) || decide (10 < (a.length : Int))) = false := by simp; exact ⟨hn, by omega⟩
  rw [this]
  by_cases hs : spec_l01Small ((a.getD 0 0).toNat : Int) = true
  · rw [hs]
    refine (loopF_iff (n := a.length) (p := fun j => _) (fun j u _ => by rfl)).trans ?_
    simp only [spec_l01Small, Bool.and_eq_true, decide_eq_true_eq] at hs
    constructor
    · rintro ⟨h1, _⟩
      refine ⟨hn, by omega, fun j hj => ?_⟩
      have := h1 j hj
      simp [spec_l01Small, spec_l01Digit, -List.getD_eq_getElem?_getD] at this
      by_cases hj0 : j = 0
      · subst hj0; omega
      · omega
    · rintro ⟨_, _, h1⟩
      refine ⟨fun j hj => ?_, rfl⟩
      have := h1 j hj
      simp [spec_l01Small, spec_l01Digit, -List.getD_eq_getElem?_getD]
      omega
  · have hs' : spec_l01Small ((a.getD 0 0).toNat : Int) = false := by simpa using hs
    rw [hs']
    simp only [Bool.not_false, Bool.or_true, cond_true]
    constructor
    · intro h; cases h
    · rintro ⟨_, _, h1⟩
      have := h1 0 hp
      exfalso
      apply hs
      simp [spec_l01Small, -List.getD_eq_getElem?_getD]
      simp [-List.getD_eq_getElem?_getD] at this
      omega
theorem name_eq (a : List UInt8) : impl_IsName a = spec_l01Name a := Bool.eq_iff_iff.2 ((isName_iff a).trans (l01Name_iff a).symm)
end Go.Ab

namespace Go.Ab
open Go Go.Proofs
theorem spec_l03Day_DD : DOk Tryz.prog (DD [(98, dP D_spec_l00In)]) := DD_cons D_spec_l00In_ok.e <| DD_nil _
def spec_l03Day (a0 : Int) : Bool :=
  (spec_l00In a0 0 99999)
theorem spec_l03Day_den (a0 : Int)  : Den Tryz.prog 123 [.int .i64 a0] (.bool (spec_l03Day a0)) := by
  generalize hR : spec_l03Day a0 = r
  unfold spec_l03Day at hR
  refine den_intro G_ok Tryz.func123 (by kernel_rfl) rfl Tryz.ntmps123 (by rw [Tryz.results123]) (by simp) rfl ?_
  intro c hL hc hk
  clear hL
  simp only [pars, Nat.zero_add]
  refine AWP.seq ?_
  refine AWP.regS G_ok spec_l03Day_DD hc (by kernel_rfl) (fun K hK => ?_); simp only [ea, gv, sv, D_spec_l00In, reduceCtorEq, reduceIte, Nat.reduceBEq, Nat.reduceAdd, Nat.reduceEqDiff, Nat.reduceLT, Nat.reduceLeDiff, Nat.reduceMul, Nat.reduceSub, BEq.rfl, beq_self_eq_true, Int.reduceToNat]
  (refine hK _ ?_)
  clear hK K
  refine AWP.seq ?_
  refine AWP.regS G_ok spec_l03Day_DD hc (by kernel_rfl) (fun K hK => ?_); simp only [ea, gv, sv, D_spec_l00In, reduceCtorEq, reduceIte, Nat.reduceBEq, Nat.reduceAdd, Nat.reduceEqDiff, Nat.reduceLT, Nat.reduceLeDiff, Nat.reduceMul, Nat.reduceSub, BEq.rfl, beq_self_eq_true, Int.reduceToNat]
  (refine hK _ ?_)
  clear hK K
  refine AWP.ret ?_
  subst hR
  (simp only [en, si, ea, gv, sv, hk, reduceCtorEq, reduceIte, Nat.reduceBEq, Nat.reduceAdd, Nat.reduceEqDiff, Nat.reduceLT, Nat.reduceLeDiff, Nat.reduceMul, Nat.reduceSub, BEq.rfl, beq_self_eq_true, Int.reduceToNat]; done)
def D_spec_l03Day : DF
  | [x0] => some (.bool (spec_l03Day (rdI x0)), false, [wI .i64 x0])
  | _ => none
theorem D_spec_l03Day_ok : OkD Tryz.prog 123 D_spec_l03Day := by
  intro xs r z ob h ho
  unfold D_spec_l03Day at h
  split at h
  · simp only [Option.some.injEq, Prod.mk.injEq] at h
    obtain ⟨rfl, rfl, rfl⟩ := h
    obtain ⟨h0, _⟩ := ho
    exact Den.sim (spec_l03Day_den _ ) (simOL_cons (wI_sim h0).1 <| trivial) (noIdL_cons (wI_sim h0).2 <| rfl) rfl
  · cases h
end Go.Ab

namespace Go.Ab
open Go Go.Proofs
theorem spec_l29Entry_DD : DOk Tryz.prog (DD [(123, dP D_spec_l03Day), (124, dP D_spec_l01Name), (98, dP D_spec_l00In)]) := DD_cons D_spec_l03Day_ok.e <| DD_cons D_spec_l01Name_ok.e <| DD_cons D_spec_l00In_ok.e <| DD_nil _
def spec_l29Entry (a0 : Entry) : Bool :=
  ((((spec_l03Day a0.Day) && (spec_l01Name a0.Item)) && (spec_l00In a0.Amount (-1000) 1000)) && (a0.Amount != 0))
theorem spec_l29Entry_den (a0 : Entry)  : Den Tryz.prog 83 [.ep (eEntry a0)] (.bool (spec_l29Entry a0)) := by
  generalize hR : spec_l29Entry a0 = r
  unfold spec_l29Entry at hR
  refine den_intro G_ok Tryz.func83 (by kernel_rfl) rfl Tryz.ntmps83 (by rw [Tryz.results83]) (by simp) rfl ?_
  intro c hL hc hk
  obtain ⟨hL0, _⟩ := hL
  have hw0 : bwEntry a0 := Entry_lens a0 hL0
  clear hL0
  simp only [pars, Nat.zero_add]
  refine AWP.seq ?_
  refine AWP.regS G_ok spec_l29Entry_DD hc (by kernel_rfl) (fun K hK => ?_); simp only [ea, gv, sv, D_spec_l03Day, D_spec_l01Name, D_spec_l00In, reduceCtorEq, reduceIte, Nat.reduceBEq, Nat.reduceAdd, Nat.reduceEqDiff, Nat.reduceLT, Nat.reduceLeDiff, Nat.reduceMul, Nat.reduceSub, BEq.rfl, beq_self_eq_true, Int.reduceToNat]
  (refine hK _ ?_)
  clear hK K
  refine AWP.seq ?_
  refine AWP.regS G_ok spec_l29Entry_DD hc (by kernel_rfl) (fun K hK => ?_); simp only [ea, gv, sv, D_spec_l03Day, D_spec_l01Name, D_spec_l00In, reduceCtorEq, reduceIte, Nat.reduceBEq, Nat.reduceAdd, Nat.reduceEqDiff, Nat.reduceLT, Nat.reduceLeDiff, Nat.reduceMul, Nat.reduceSub, BEq.rfl, beq_self_eq_true, Int.reduceToNat]
  (refine hK _ ?_)
  clear hK K
  refine AWP.ret ?_
  subst hR
  (simp only [en, si, ea, gv, sv, hk, reduceCtorEq, reduceIte, Nat.reduceBEq, Nat.reduceAdd, Nat.reduceEqDiff, Nat.reduceLT, Nat.reduceLeDiff, Nat.reduceMul, Nat.reduceSub, BEq.rfl, beq_self_eq_true, Int.reduceToNat]; done)
def D_spec_l29Entry : DF
  | [x0] => some (.bool (spec_l29Entry (rdP dEntry x0)), false, [wP eEntry dEntry x0])
  | _ => none
theorem D_spec_l29Entry_ok : OkD Tryz.prog 83 D_spec_l29Entry := by
  intro xs r z ob h ho
  unfold D_spec_l29Entry at h
  split at h
  · simp only [Option.some.injEq, Prod.mk.injEq] at h
    obtain ⟨rfl, rfl, rfl⟩ := h
    obtain ⟨h0, _⟩ := ho
    exact Den.sim (spec_l29Entry_den _ ) (simOL_cons (wP_sim h0).1 <| trivial) (noIdL_cons (wP_sim h0).2 <| rfl) rfl
  · cases h
end Go.Ab

namespace Go.Ab
open Go Go.Proofs
theorem spec_l29Entry_rng (e : Entry) (h : spec_l29Entry e = true) : 0 ≤ e.Day ∧ e.Day ≤ 99999 ∧ -1000 ≤ e.Amount ∧ e.Amount ≤ 1000 := by
  simp only [spec_l29Entry, spec_l03Day, spec_l00In, Bool.and_eq_true, decide_eq_true_eq] at h
  omega
end Go.Ab

namespace Go.Ab
open Go Go.Proofs
theorem impl_isEntry_DD : DOk Tryz.prog (DD [(42, dP D_impl_isDay), (67, dP D_impl_IsName), (68, dP D_impl_within)]) := DD_cons D_impl_isDay_ok.e <| DD_cons D_impl_IsName_ok.e <| DD_cons D_impl_within_ok.e <| DD_nil _
def impl_isEntry (a0 : Entry) : Bool :=
  ((((impl_isDay a0.Day) && (impl_IsName a0.Item)) && (impl_within a0.Amount (-1000) 1000)) && (a0.Amount != 0))
theorem impl_isEntry_den (a0 : Entry)  : Den Tryz.prog 31 [.agg (eEntry a0)] (.bool (impl_isEntry a0)) := by
  generalize hR : impl_isEntry a0 = r
  unfold impl_isEntry at hR
  refine den_intro G_ok Tryz.func31 (by kernel_rfl) rfl Tryz.ntmps31 (by rw [Tryz.results31]) (by simp) rfl ?_
  intro c hL hc hk
  obtain ⟨hL0, _⟩ := hL
  have hw0 : bwEntry a0 := Entry_lens a0 hL0
  clear hL0
  simp only [pars, Nat.zero_add]
  refine AWP.seq ?_
  refine AWP.regS G_ok impl_isEntry_DD hc (by kernel_rfl) (fun K hK => ?_); simp only [ea, gv, sv, D_impl_isDay, D_impl_IsName, D_impl_within, reduceCtorEq, reduceIte, Nat.reduceBEq, Nat.reduceAdd, Nat.reduceEqDiff, Nat.reduceLT, Nat.reduceLeDiff, Nat.reduceMul, Nat.reduceSub, BEq.rfl, beq_self_eq_true, Int.reduceToNat]
  (refine hK _ ?_)
  clear hK K
  refine AWP.seq ?_
  refine AWP.regS G_ok impl_isEntry_DD hc (by kernel_rfl) (fun K hK => ?_); simp only [ea, gv, sv, D_impl_isDay, D_impl_IsName, D_impl_within, reduceCtorEq, reduceIte, Nat.reduceBEq, Nat.reduceAdd, Nat.reduceEqDiff, Nat.reduceLT, Nat.reduceLeDiff, Nat.reduceMul, Nat.reduceSub, BEq.rfl, beq_self_eq_true, Int.reduceToNat]
  (refine hK _ ?_)
  clear hK K
  refine AWP.ret ?_
  subst hR
  (simp only [en, si, ea, gv, sv, hk, reduceCtorEq, reduceIte, Nat.reduceBEq, Nat.reduceAdd, Nat.reduceEqDiff, Nat.reduceLT, Nat.reduceLeDiff, Nat.reduceMul, Nat.reduceSub, BEq.rfl, beq_self_eq_true, Int.reduceToNat]; done)
def D_impl_isEntry : DF
  | [x0] => some (.bool (impl_isEntry (rdG dEntry x0)), false, [wG eEntry dEntry x0])
  | _ => none
theorem D_impl_isEntry_ok : OkD Tryz.prog 31 D_impl_isEntry := by
  intro xs r z ob h ho
  unfold D_impl_isEntry at h
  split at h
  · simp only [Option.some.injEq, Prod.mk.injEq] at h
    obtain ⟨rfl, rfl, rfl⟩ := h
    obtain ⟨h0, _⟩ := ho
    exact Den.sim (impl_isEntry_den _ ) (simOL_cons (wG_sim h0).1 <| trivial) (noIdL_cons (wG_sim h0).2 <| rfl) rfl
  · cases h
end Go.Ab

namespace Go.Ab
open Go Go.Proofs
theorem impl_isEntry_rng (e : Entry) (h : impl_isEntry e = true) : 0 ≤ e.Day ∧ e.Day ≤ 99999 ∧ -1000 ≤ e.Amount ∧ e.Amount ≤ 1000 := by
  simp only [impl_isEntry, impl_isDay, impl_within, Bool.and_eq_true, decide_eq_true_eq] at h
  omega
end Go.Ab

namespace Go.Ab
open Go Go.Proofs
theorem impl_EntryText_DD : DOk Tryz.prog (DD [(31, dP D_impl_isEntry), (32, dP D_impl_DateText), (33, dP D_impl_Decimal)]) := DD_cons D_impl_isEntry_ok.e <| DD_cons D_impl_DateText_ok.e <| DD_cons D_impl_Decimal_ok.e <| DD_nil _
def impl_EntryText (a0 : Entry) : (List UInt8) :=
  (bif (!(impl_isEntry a0)) then [] else ((((impl_DateText a0.Day) ++ [32]) ++ a0.Item) ++ [32]) ++ (impl_Decimal a0.Amount))
theorem impl_EntryText_den (a0 : Entry) (hb0 : bdEntry a0) : Den Tryz.prog 12 [.agg (eEntry a0)] (.str (impl_EntryText a0)) := by
  generalize hR : impl_EntryText a0 = r
  unfold impl_EntryText at hR
  refine den_intro G_ok Tryz.func12 (by kernel_rfl) rfl Tryz.ntmps12 (by rw [Tryz.results12]) (by simp) rfl ?_
  intro c hL hc hk
  obtain ⟨hL0, _⟩ := hL
  have hw0 : bwEntry a0 := Entry_lens a0 hL0
  clear hL0
  simp only [pars, Nat.zero_add]
  refine AWP.seq ?_
  refine AWP.regS G_ok impl_EntryText_DD hc (by kernel_rfl) (fun K hK => ?_); simp only [ea, gv, sv, D_impl_isEntry, D_impl_DateText, D_impl_Decimal, reduceCtorEq, reduceIte, Nat.reduceBEq, Nat.reduceAdd, Nat.reduceEqDiff, Nat.reduceLT, Nat.reduceLeDiff, Nat.reduceMul, Nat.reduceSub, BEq.rfl, beq_self_eq_true, Int.reduceToNat]
  (refine hK _ ?_)
  clear hK K
  refine AWP.seq ?_
  refine AWP.seq ?_
  refine AWP.regS G_ok impl_EntryText_DD hc (by kernel_rfl) (fun K hK => ?_); simp only [ea, gv, sv, D_impl_isEntry, D_impl_DateText, D_impl_Decimal, reduceCtorEq, reduceIte, Nat.reduceBEq, Nat.reduceAdd, Nat.reduceEqDiff, Nat.reduceLT, Nat.reduceLeDiff, Nat.reduceMul, Nat.reduceSub, BEq.rfl, beq_self_eq_true, Int.reduceToNat]
  (refine hK _ ?_)
  clear hK K
  refine AWP.cond rfl (fun hb => ?_) (fun hb => ?_)
  · (simp only [hb, cond_true] at hR)
    refine AWP.seq ?_
    refine AWP.regS G_ok impl_EntryText_DD hc (by kernel_rfl) (fun K hK => ?_); simp only [ea, gv, sv, D_impl_isEntry, D_impl_DateText, D_impl_Decimal, reduceCtorEq, reduceIte, Nat.reduceBEq, Nat.reduceAdd, Nat.reduceEqDiff, Nat.reduceLT, Nat.reduceLeDiff, Nat.reduceMul, Nat.reduceSub, BEq.rfl, beq_self_eq_true, Int.reduceToNat]
    (refine hK _ ?_)
    clear hK K
    refine AWP.ret ?_
    subst hR
    (simp only [en, si, ea, gv, sv, hk, reduceCtorEq, reduceIte, Nat.reduceBEq, Nat.reduceAdd, Nat.reduceEqDiff, Nat.reduceLT, Nat.reduceLeDiff, Nat.reduceMul, Nat.reduceSub, BEq.rfl, beq_self_eq_true, Int.reduceToNat]; done)
  · (simp only [hb, cond_false] at hR)
    refine AWP.skip ?_
    refine AWP.seq ?_
    refine AWP.regD mixed G_ok impl_EntryText_DD hc 11 (by kernel_rfl) (by kernel_rfl) (fun K hK => ?_); simp only [ea, gv, sv, D_impl_isEntry, D_impl_DateText, D_impl_Decimal, reduceCtorEq, reduceIte, Nat.reduceBEq, Nat.reduceAdd, Nat.reduceEqDiff, Nat.reduceLT, Nat.reduceLeDiff, Nat.reduceMul, Nat.reduceSub, BEq.rfl, beq_self_eq_true, Int.reduceToNat]
    (refine ⟨by ((have hb7 : a0.Item.length < 1099511627776 := (by have hb6 := hb0; simp only [bdv] at hb6; omega); have h9 := impl_isEntry_rng a0 (by simpa using hb); have l1 := impl_DateText_len a0.Day; have l2 := impl_Decimal_len a0.Amount; (try simp only [List.length_append, List.length_cons, List.length_nil]); omega)), hK _ ?_⟩)
    clear hK K
    refine AWP.ret ?_
    subst hR
    (simp only [en, si, ea, gv, sv, hk, reduceCtorEq, reduceIte, Nat.reduceBEq, Nat.reduceAdd, Nat.reduceEqDiff, Nat.reduceLT, Nat.reduceLeDiff, Nat.reduceMul, Nat.reduceSub, BEq.rfl, beq_self_eq_true, Int.reduceToNat]; done)
def D_impl_EntryText : DF
  | [x0] => some (.str (impl_EntryText (rdG dEntry x0)), false, [wG eEntry dEntry x0, bdEntry (rdG dEntry x0)])
  | _ => none
theorem D_impl_EntryText_ok : OkD Tryz.prog 12 D_impl_EntryText := by
  intro xs r z ob h ho
  unfold D_impl_EntryText at h
  split at h
  · simp only [Option.some.injEq, Prod.mk.injEq] at h
    obtain ⟨rfl, rfl, rfl⟩ := h
    obtain ⟨h0, hb0, _⟩ := ho
    exact Den.sim (impl_EntryText_den _ hb0) (simOL_cons (wG_sim h0).1 <| trivial) (noIdL_cons (wG_sim h0).2 <| rfl) rfl
  · cases h
end Go.Ab

namespace Go.Ab
open Go Go.Proofs
theorem impl_ReadDecimal_DD : DOk Tryz.prog (DD []) := DD_nil _
def impl_ReadDecimal (a0 : (List UInt8)) : (Int × Bool) := readDecL a0
theorem impl_ReadDecimal_den (a0 : (List UInt8)) (hp0 : a0.length ≤ 1048576) : Den Tryz.prog 30 [.str a0] (.tup [.int .i64 ((impl_ReadDecimal a0).1), .bool ((impl_ReadDecimal a0).2)]) := by
  exact readDec_den a0 hp0
def D_impl_ReadDecimal : DF
  | [x0] => some (.tup [.int .i64 ((impl_ReadDecimal (rdS x0)).1), .bool ((impl_ReadDecimal (rdS x0)).2)], false, [wS x0, (rdS x0).length ≤ 1048576])
  | _ => none
theorem D_impl_ReadDecimal_ok : OkD Tryz.prog 30 D_impl_ReadDecimal := by
  intro xs r z ob h ho
  unfold D_impl_ReadDecimal at h
  split at h
  · simp only [Option.some.injEq, Prod.mk.injEq] at h
    obtain ⟨rfl, rfl, rfl⟩ := h
    obtain ⟨h0, hp0, _⟩ := ho
    exact Den.sim (impl_ReadDecimal_den _ hp0) (simOL_cons (wS_sim h0).1 <| trivial) (noIdL_cons (wS_sim h0).2 <| rfl) rfl
  · cases h
end Go.Ab

namespace Go.Ab
open Go Go.Proofs
theorem impl_ReadEntry_DD : DOk Tryz.prog (DD [(12, dP D_impl_EntryText), (28, dP D_impl_SplitWords), (29, dP D_impl_ReadDate), (30, dP D_impl_ReadDecimal)]) := DD_cons D_impl_EntryText_ok.e <| DD_cons D_impl_SplitWords_ok.e <| DD_cons D_impl_ReadDate_ok.e <| DD_cons D_impl_ReadDecimal_ok.e <| DD_nil _
def impl_ReadEntry (a0 : (List UInt8)) : (Entry × Bool) :=
  (bif (((impl_SplitWords a0).length : Int) != 3) then ({ Day := 0, Item := [], Amount := 0 : Entry }, false) else (bif (((!((impl_ReadDate ((impl_SplitWords a0).getD 0 default)).2)) || (!((impl_ReadDecimal ((impl_SplitWords a0).getD 2 default)).2))) || ((impl_EntryText ({ Day := (impl_ReadDate ((impl_SplitWords a0).getD 0 default)).1, Item := ((impl_SplitWords a0).getD 1 default), Amount := (impl_ReadDecimal ((impl_SplitWords a0).getD 2 default)).1 : Entry })) != a0)) then ({ Day := 0, Item := [], Amount := 0 : Entry }, false) else ({ Day := (impl_ReadDate ((impl_SplitWords a0).getD 0 default)).1, Item := ((impl_SplitWords a0).getD 1 default), Amount := (impl_ReadDecimal ((impl_SplitWords a0).getD 2 default)).1 : Entry }, true)))
theorem impl_ReadEntry_den (a0 : (List UInt8)) (hb0 : a0.length < 1099511627776) (hp0 : a0.length ≤ 1048576) : Den Tryz.prog 11 [.str a0] (.tup [.agg (eEntry ((impl_ReadEntry a0).1)), .bool ((impl_ReadEntry a0).2)]) := by
  generalize hR : impl_ReadEntry a0 = r
  unfold impl_ReadEntry at hR
  refine den_intro G_ok Tryz.func11 (by kernel_rfl) rfl Tryz.ntmps11 (by rw [Tryz.results11]) (by simp) rfl ?_
  intro c hL hc hk
  obtain ⟨hL0, _⟩ := hL
  have hw0 : a0.length < 9223372036854775808 := Nat.lt_succ_of_le hL0
  clear hL0
  simp only [pars, Nat.zero_add]
  have hs9 := impl_SplitWords_len a0 (by omega)
  have hs0 := getD_len hs9 0
  have hs1 := getD_len hs9 1
  have hs2 := getD_len hs9 2
  refine AWP.seq ?_
  refine AWP.regS G_ok impl_ReadEntry_DD hc (by kernel_rfl) (fun K hK => ?_); simp only [ea, gv, sv, D_impl_EntryText, D_impl_SplitWords, D_impl_ReadDate, D_impl_ReadDecimal, reduceCtorEq, reduceIte, Nat.reduceBEq, Nat.reduceAdd, Nat.reduceEqDiff, Nat.reduceLT, Nat.reduceLeDiff, Nat.reduceMul, Nat.reduceSub, BEq.rfl, beq_self_eq_true, Int.reduceToNat]
  (refine hK _ ?_)
  clear hK K
  refine AWP.seq ?_
  refine AWP.regS G_ok impl_ReadEntry_DD hc (by kernel_rfl) (fun K hK => ?_); simp only [ea, gv, sv, D_impl_EntryText, D_impl_SplitWords, D_impl_ReadDate, D_impl_ReadDecimal, reduceCtorEq, reduceIte, Nat.reduceBEq, Nat.reduceAdd, Nat.reduceEqDiff, Nat.reduceLT, Nat.reduceLeDiff, Nat.reduceMul, Nat.reduceSub, BEq.rfl, beq_self_eq_true, Int.reduceToNat]
  (refine ⟨by (trivial), hK _ ?_⟩)
  clear hK K
  refine AWP.seq ?_
  refine AWP.seq ?_
  refine AWP.regS G_ok impl_ReadEntry_DD hc (by kernel_rfl) (fun K hK => ?_); simp only [ea, gv, sv, D_impl_EntryText, D_impl_SplitWords, D_impl_ReadDate, D_impl_ReadDecimal, reduceCtorEq, reduceIte, Nat.reduceBEq, Nat.reduceAdd, Nat.reduceEqDiff, Nat.reduceLT, Nat.reduceLeDiff, Nat.reduceMul, Nat.reduceSub, BEq.rfl, beq_self_eq_true, Int.reduceToNat]
  (refine hK _ ?_)
  clear hK K
  refine AWP.cond rfl (fun hb => ?_) (fun hb => ?_)
  · (simp only [hb, cond_true] at hR)
    refine AWP.seq ?_
    refine AWP.regS G_ok impl_ReadEntry_DD hc (by kernel_rfl) (fun K hK => ?_); simp only [ea, gv, sv, D_impl_EntryText, D_impl_SplitWords, D_impl_ReadDate, D_impl_ReadDecimal, reduceCtorEq, reduceIte, Nat.reduceBEq, Nat.reduceAdd, Nat.reduceEqDiff, Nat.reduceLT, Nat.reduceLeDiff, Nat.reduceMul, Nat.reduceSub, BEq.rfl, beq_self_eq_true, Int.reduceToNat]
    (refine hK _ ?_)
    clear hK K
    refine AWP.ret ?_
    subst hR
    (simp only [en, si, ea, gv, sv, hk, reduceCtorEq, reduceIte, Nat.reduceBEq, Nat.reduceAdd, Nat.reduceEqDiff, Nat.reduceLT, Nat.reduceLeDiff, Nat.reduceMul, Nat.reduceSub, BEq.rfl, beq_self_eq_true, Int.reduceToNat]; done)
  · (simp only [hb, cond_false] at hR)
    refine AWP.skip ?_
    refine AWP.seq ?_
    refine AWP.regS G_ok impl_ReadEntry_DD hc (by kernel_rfl) (fun K hK => ?_); simp only [ea, gv, sv, D_impl_EntryText, D_impl_SplitWords, D_impl_ReadDate, D_impl_ReadDecimal, reduceCtorEq, reduceIte, Nat.reduceBEq, Nat.reduceAdd, Nat.reduceEqDiff, Nat.reduceLT, Nat.reduceLeDiff, Nat.reduceMul, Nat.reduceSub, BEq.rfl, beq_self_eq_true, Int.reduceToNat]
    (refine ⟨by ((simp only [ob, ln, bdv, sv] at *; omega)), hK _ ?_⟩)
    clear hK K
    refine AWP.seq ?_
    refine AWP.regS G_ok impl_ReadEntry_DD hc (by kernel_rfl) (fun K hK => ?_); simp only [ea, gv, sv, D_impl_EntryText, D_impl_SplitWords, D_impl_ReadDate, D_impl_ReadDecimal, reduceCtorEq, reduceIte, Nat.reduceBEq, Nat.reduceAdd, Nat.reduceEqDiff, Nat.reduceLT, Nat.reduceLeDiff, Nat.reduceMul, Nat.reduceSub, BEq.rfl, beq_self_eq_true, Int.reduceToNat]
    (refine ⟨by ((simp only [ob, ln, bdv, sv] at *; omega)), hK _ ?_⟩)
    clear hK K
    refine AWP.seq ?_
    refine AWP.regS G_ok impl_ReadEntry_DD hc (by kernel_rfl) (fun K hK => ?_); simp only [ea, gv, sv, D_impl_EntryText, D_impl_SplitWords, D_impl_ReadDate, D_impl_ReadDecimal, reduceCtorEq, reduceIte, Nat.reduceBEq, Nat.reduceAdd, Nat.reduceEqDiff, Nat.reduceLT, Nat.reduceLeDiff, Nat.reduceMul, Nat.reduceSub, BEq.rfl, beq_self_eq_true, Int.reduceToNat]
    (refine ⟨by ((simp only [ob, ln, bdv, sv] at *; omega)), hK _ ?_⟩)
    clear hK K
    refine AWP.seq ?_
    refine AWP.seq ?_
    refine AWP.regS G_ok impl_ReadEntry_DD hc (by kernel_rfl) (fun K hK => ?_); simp only [ea, gv, sv, D_impl_EntryText, D_impl_SplitWords, D_impl_ReadDate, D_impl_ReadDecimal, reduceCtorEq, reduceIte, Nat.reduceBEq, Nat.reduceAdd, Nat.reduceEqDiff, Nat.reduceLT, Nat.reduceLeDiff, Nat.reduceMul, Nat.reduceSub, BEq.rfl, beq_self_eq_true, Int.reduceToNat]
    (refine ⟨by ((simp only [ob, ln, bdv, sv] at *; omega)), hK _ ?_⟩)
    clear hK K
    refine AWP.cond rfl (fun hb => ?_) (fun hb => ?_)
    · (simp only [hb, cond_true] at hR)
      refine AWP.seq ?_
      refine AWP.regS G_ok impl_ReadEntry_DD hc (by kernel_rfl) (fun K hK => ?_); simp only [ea, gv, sv, D_impl_EntryText, D_impl_SplitWords, D_impl_ReadDate, D_impl_ReadDecimal, reduceCtorEq, reduceIte, Nat.reduceBEq, Nat.reduceAdd, Nat.reduceEqDiff, Nat.reduceLT, Nat.reduceLeDiff, Nat.reduceMul, Nat.reduceSub, BEq.rfl, beq_self_eq_true, Int.reduceToNat]
      (refine hK _ ?_)
      clear hK K
      refine AWP.ret ?_
      subst hR
      (simp only [en, si, ea, gv, sv, hk, reduceCtorEq, reduceIte, Nat.reduceBEq, Nat.reduceAdd, Nat.reduceEqDiff, Nat.reduceLT, Nat.reduceLeDiff, Nat.reduceMul, Nat.reduceSub, BEq.rfl, beq_self_eq_true, Int.reduceToNat]; done)
    · (simp only [hb, cond_false] at hR)
      refine AWP.skip ?_
      refine AWP.seq ?_
      refine AWP.regS G_ok impl_ReadEntry_DD hc (by kernel_rfl) (fun K hK => ?_); simp only [ea, gv, sv, D_impl_EntryText, D_impl_SplitWords, D_impl_ReadDate, D_impl_ReadDecimal, reduceCtorEq, reduceIte, Nat.reduceBEq, Nat.reduceAdd, Nat.reduceEqDiff, Nat.reduceLT, Nat.reduceLeDiff, Nat.reduceMul, Nat.reduceSub, BEq.rfl, beq_self_eq_true, Int.reduceToNat]
      (refine hK _ ?_)
      clear hK K
      refine AWP.ret ?_
      subst hR
      (simp only [en, si, ea, gv, sv, hk, reduceCtorEq, reduceIte, Nat.reduceBEq, Nat.reduceAdd, Nat.reduceEqDiff, Nat.reduceLT, Nat.reduceLeDiff, Nat.reduceMul, Nat.reduceSub, BEq.rfl, beq_self_eq_true, Int.reduceToNat]; done)
def D_impl_ReadEntry : DF
  | [x0] => some (.tup [.agg (eEntry ((impl_ReadEntry (rdS x0)).1)), .bool ((impl_ReadEntry (rdS x0)).2)], false, [wS x0, (rdS x0).length < 1099511627776, (rdS x0).length ≤ 1048576])
  | _ => none
theorem D_impl_ReadEntry_ok : OkD Tryz.prog 11 D_impl_ReadEntry := by
  intro xs r z ob h ho
  unfold D_impl_ReadEntry at h
  split at h
  · simp only [Option.some.injEq, Prod.mk.injEq] at h
    obtain ⟨rfl, rfl, rfl⟩ := h
    obtain ⟨h0, hb0, hp0, _⟩ := ho
    exact Den.sim (impl_ReadEntry_den _ hb0 hp0) (simOL_cons (wS_sim h0).1 <| trivial) (noIdL_cons (wS_sim h0).2 <| rfl) rfl
  · cases h
end Go.Ab

namespace Go.Ab
open Go Go.Proofs
theorem spec_l29Read_DD : DOk Tryz.prog (DD [(80, dP D_spec_l01Split), (81, dP D_spec_l03Read), (82, dP D_spec_l01Number), (83, dP D_spec_l29Entry)]) := DD_cons D_spec_l01Split_ok.e <| DD_cons D_spec_l03Read_ok.e <| DD_cons D_spec_l01Number_ok.e <| DD_cons D_spec_l29Entry_ok.e <| DD_nil _
def spec_l29Read (a0 : (List UInt8)) : (Entry × Bool) :=
  (bif (((spec_l01Split a0 32).length : Int) != 3) then ({ Day := 0, Item := [], Amount := 0 : Entry }, false) else (bif (((!((spec_l03Read ((spec_l01Split a0 32).getD 0 default)).2)) || (!((spec_l01Number ((spec_l01Split a0 32).getD 2 default)).2))) || (!(spec_l29Entry ({ Day := (spec_l03Read ((spec_l01Split a0 32).getD 0 default)).1, Item := ((spec_l01Split a0 32).getD 1 default), Amount := (spec_l01Number ((spec_l01Split a0 32).getD 2 default)).1 : Entry })))) then ({ Day := 0, Item := [], Amount := 0 : Entry }, false) else ({ Day := (spec_l03Read ((spec_l01Split a0 32).getD 0 default)).1, Item := ((spec_l01Split a0 32).getD 1 default), Amount := (spec_l01Number ((spec_l01Split a0 32).getD 2 default)).1 : Entry }, true)))
theorem spec_l29Read_den (a0 : (List UInt8)) (hb0 : a0.length < 1099511627776) (hp0 : a0.length ≤ 1048576) : Den Tryz.prog 43 [.str a0] (.tup [.agg (eEntry ((spec_l29Read a0).1)), .bool ((spec_l29Read a0).2)]) := by
  generalize hR : spec_l29Read a0 = r
  unfold spec_l29Read at hR
  refine den_intro G_ok Tryz.func43 (by kernel_rfl) rfl Tryz.ntmps43 (by rw [Tryz.results43]) (by simp) rfl ?_
  intro c hL hc hk
  obtain ⟨hL0, _⟩ := hL
  have hw0 : a0.length < 9223372036854775808 := Nat.lt_succ_of_le hL0
  clear hL0
  simp only [pars, Nat.zero_add]
  have hs9 := spec_l01Split_len a0 (by omega)
  have hs0 := getD_len hs9 0
  have hs1 := getD_len hs9 1
  have hs2 := getD_len hs9 2
  refine AWP.seq ?_
  refine AWP.regS G_ok spec_l29Read_DD hc (by kernel_rfl) (fun K hK => ?_); simp only [ea, gv, sv, D_spec_l01Split, D_spec_l03Read, D_spec_l01Number, D_spec_l29Entry, reduceCtorEq, reduceIte, Nat.reduceBEq, Nat.reduceAdd, Nat.reduceEqDiff, Nat.reduceLT, Nat.reduceLeDiff, Nat.reduceMul, Nat.reduceSub, BEq.rfl, beq_self_eq_true, Int.reduceToNat]
  (refine hK _ ?_)
  clear hK K
  refine AWP.seq ?_
  refine AWP.regS G_ok spec_l29Read_DD hc (by kernel_rfl) (fun K hK => ?_); simp only [ea, gv, sv, D_spec_l01Split, D_spec_l03Read, D_spec_l01Number, D_spec_l29Entry, reduceCtorEq, reduceIte, Nat.reduceBEq, Nat.reduceAdd, Nat.reduceEqDiff, Nat.reduceLT, Nat.reduceLeDiff, Nat.reduceMul, Nat.reduceSub, BEq.rfl, beq_self_eq_true, Int.reduceToNat]
  (refine ⟨by (trivial), hK _ ?_⟩)
  clear hK K
  refine AWP.seq ?_
  refine AWP.seq ?_
  refine AWP.regS G_ok spec_l29Read_DD hc (by kernel_rfl) (fun K hK => ?_); simp only [ea, gv, sv, D_spec_l01Split, D_spec_l03Read, D_spec_l01Number, D_spec_l29Entry, reduceCtorEq, reduceIte, Nat.reduceBEq, Nat.reduceAdd, Nat.reduceEqDiff, Nat.reduceLT, Nat.reduceLeDiff, Nat.reduceMul, Nat.reduceSub, BEq.rfl, beq_self_eq_true, Int.reduceToNat]
  (refine hK _ ?_)
  clear hK K
  refine AWP.cond rfl (fun hb => ?_) (fun hb => ?_)
  · (simp only [hb, cond_true] at hR)
    refine AWP.seq ?_
    refine AWP.regS G_ok spec_l29Read_DD hc (by kernel_rfl) (fun K hK => ?_); simp only [ea, gv, sv, D_spec_l01Split, D_spec_l03Read, D_spec_l01Number, D_spec_l29Entry, reduceCtorEq, reduceIte, Nat.reduceBEq, Nat.reduceAdd, Nat.reduceEqDiff, Nat.reduceLT, Nat.reduceLeDiff, Nat.reduceMul, Nat.reduceSub, BEq.rfl, beq_self_eq_true, Int.reduceToNat]
    (refine hK _ ?_)
    clear hK K
    refine AWP.ret ?_
    subst hR
    (simp only [en, si, ea, gv, sv, hk, reduceCtorEq, reduceIte, Nat.reduceBEq, Nat.reduceAdd, Nat.reduceEqDiff, Nat.reduceLT, Nat.reduceLeDiff, Nat.reduceMul, Nat.reduceSub, BEq.rfl, beq_self_eq_true, Int.reduceToNat]; done)
  · (simp only [hb, cond_false] at hR)
    refine AWP.skip ?_
    refine AWP.seq ?_
    refine AWP.regS G_ok spec_l29Read_DD hc (by kernel_rfl) (fun K hK => ?_); simp only [ea, gv, sv, D_spec_l01Split, D_spec_l03Read, D_spec_l01Number, D_spec_l29Entry, reduceCtorEq, reduceIte, Nat.reduceBEq, Nat.reduceAdd, Nat.reduceEqDiff, Nat.reduceLT, Nat.reduceLeDiff, Nat.reduceMul, Nat.reduceSub, BEq.rfl, beq_self_eq_true, Int.reduceToNat]
    (refine ⟨by ((simp only [ob, ln, bdv, sv] at *; omega)), hK _ ?_⟩)
    clear hK K
    refine AWP.seq ?_
    refine AWP.regS G_ok spec_l29Read_DD hc (by kernel_rfl) (fun K hK => ?_); simp only [ea, gv, sv, D_spec_l01Split, D_spec_l03Read, D_spec_l01Number, D_spec_l29Entry, reduceCtorEq, reduceIte, Nat.reduceBEq, Nat.reduceAdd, Nat.reduceEqDiff, Nat.reduceLT, Nat.reduceLeDiff, Nat.reduceMul, Nat.reduceSub, BEq.rfl, beq_self_eq_true, Int.reduceToNat]
    (refine ⟨by ((simp only [ob, ln, bdv, sv] at *; omega)), hK _ ?_⟩)
    clear hK K
    refine AWP.seq ?_
    refine AWP.regS G_ok spec_l29Read_DD hc (by kernel_rfl) (fun K hK => ?_); simp only [ea, gv, sv, D_spec_l01Split, D_spec_l03Read, D_spec_l01Number, D_spec_l29Entry, reduceCtorEq, reduceIte, Nat.reduceBEq, Nat.reduceAdd, Nat.reduceEqDiff, Nat.reduceLT, Nat.reduceLeDiff, Nat.reduceMul, Nat.reduceSub, BEq.rfl, beq_self_eq_true, Int.reduceToNat]
    (refine ⟨by ((simp only [ob, ln, bdv, sv] at *; omega)), hK _ ?_⟩)
    clear hK K
    refine AWP.seq ?_
    refine AWP.seq ?_
    refine AWP.regS G_ok spec_l29Read_DD hc (by kernel_rfl) (fun K hK => ?_); simp only [ea, gv, sv, D_spec_l01Split, D_spec_l03Read, D_spec_l01Number, D_spec_l29Entry, reduceCtorEq, reduceIte, Nat.reduceBEq, Nat.reduceAdd, Nat.reduceEqDiff, Nat.reduceLT, Nat.reduceLeDiff, Nat.reduceMul, Nat.reduceSub, BEq.rfl, beq_self_eq_true, Int.reduceToNat]
    (refine hK _ ?_)
    clear hK K
    refine AWP.cond rfl (fun hb => ?_) (fun hb => ?_)
    · (simp only [hb, cond_true] at hR)
      refine AWP.seq ?_
      refine AWP.regS G_ok spec_l29Read_DD hc (by kernel_rfl) (fun K hK => ?_); simp only [ea, gv, sv, D_spec_l01Split, D_spec_l03Read, D_spec_l01Number, D_spec_l29Entry, reduceCtorEq, reduceIte, Nat.reduceBEq, Nat.reduceAdd, Nat.reduceEqDiff, Nat.reduceLT, Nat.reduceLeDiff, Nat.reduceMul, Nat.reduceSub, BEq.rfl, beq_self_eq_true, Int.reduceToNat]
      (refine hK _ ?_)
      clear hK K
      refine AWP.ret ?_
      subst hR
      (simp only [en, si, ea, gv, sv, hk, reduceCtorEq, reduceIte, Nat.reduceBEq, Nat.reduceAdd, Nat.reduceEqDiff, Nat.reduceLT, Nat.reduceLeDiff, Nat.reduceMul, Nat.reduceSub, BEq.rfl, beq_self_eq_true, Int.reduceToNat]; done)
    · (simp only [hb, cond_false] at hR)
      refine AWP.skip ?_
      refine AWP.seq ?_
      refine AWP.regS G_ok spec_l29Read_DD hc (by kernel_rfl) (fun K hK => ?_); simp only [ea, gv, sv, D_spec_l01Split, D_spec_l03Read, D_spec_l01Number, D_spec_l29Entry, reduceCtorEq, reduceIte, Nat.reduceBEq, Nat.reduceAdd, Nat.reduceEqDiff, Nat.reduceLT, Nat.reduceLeDiff, Nat.reduceMul, Nat.reduceSub, BEq.rfl, beq_self_eq_true, Int.reduceToNat]
      (refine hK _ ?_)
      clear hK K
      refine AWP.ret ?_
      subst hR
      (simp only [en, si, ea, gv, sv, hk, reduceCtorEq, reduceIte, Nat.reduceBEq, Nat.reduceAdd, Nat.reduceEqDiff, Nat.reduceLT, Nat.reduceLeDiff, Nat.reduceMul, Nat.reduceSub, BEq.rfl, beq_self_eq_true, Int.reduceToNat]; done)
def D_spec_l29Read : DF
  | [x0] => some (.tup [.agg (eEntry ((spec_l29Read (rdS x0)).1)), .bool ((spec_l29Read (rdS x0)).2)], false, [wS x0, (rdS x0).length < 1099511627776, (rdS x0).length ≤ 1048576])
  | _ => none
theorem D_spec_l29Read_ok : OkD Tryz.prog 43 D_spec_l29Read := by
  intro xs r z ob h ho
  unfold D_spec_l29Read at h
  split at h
  · simp only [Option.some.injEq, Prod.mk.injEq] at h
    obtain ⟨rfl, rfl, rfl⟩ := h
    obtain ⟨h0, hb0, hp0, _⟩ := ho
    exact Den.sim (spec_l29Read_den _ hb0 hp0) (simOL_cons (wS_sim h0).1 <| trivial) (noIdL_cons (wS_sim h0).2 <| rfl) rfl
  · cases h
end Go.Ab

namespace Go.Ab
open Go Go.Proofs
theorem spec_ReadEntry_DD : DOk Tryz.prog (DD [(43, dP D_spec_l29Read)]) := DD_cons D_spec_l29Read_ok.e <| DD_nil _
def spec_ReadEntry (a0 : (List UInt8)) : (Entry × Bool) :=
  ((spec_l29Read a0).1, (spec_l29Read a0).2)
theorem spec_ReadEntry_den (a0 : (List UInt8)) (hb0 : a0.length < 1099511627776) (hp0 : a0.length ≤ 1048576) : Den Tryz.prog 17 [.str a0] (.tup [.agg (eEntry ((spec_ReadEntry a0).1)), .bool ((spec_ReadEntry a0).2)]) := by
  generalize hR : spec_ReadEntry a0 = r
  unfold spec_ReadEntry at hR
  refine den_intro G_ok Tryz.func17 (by kernel_rfl) rfl Tryz.ntmps17 (by rw [Tryz.results17]) (by simp) rfl ?_
  intro c hL hc hk
  obtain ⟨hL0, _⟩ := hL
  have hw0 : a0.length < 9223372036854775808 := Nat.lt_succ_of_le hL0
  clear hL0
  simp only [pars, Nat.zero_add]
  refine AWP.seq ?_
  refine AWP.regS G_ok spec_ReadEntry_DD hc (by kernel_rfl) (fun K hK => ?_); simp only [ea, gv, sv, D_spec_l29Read, reduceCtorEq, reduceIte, Nat.reduceBEq, Nat.reduceAdd, Nat.reduceEqDiff, Nat.reduceLT, Nat.reduceLeDiff, Nat.reduceMul, Nat.reduceSub, BEq.rfl, beq_self_eq_true, Int.reduceToNat]
  (refine hK _ ?_)
  clear hK K
  refine AWP.seq ?_
  refine AWP.regS G_ok spec_ReadEntry_DD hc (by kernel_rfl) (fun K hK => ?_); simp only [ea, gv, sv, D_spec_l29Read, reduceCtorEq, reduceIte, Nat.reduceBEq, Nat.reduceAdd, Nat.reduceEqDiff, Nat.reduceLT, Nat.reduceLeDiff, Nat.reduceMul, Nat.reduceSub, BEq.rfl, beq_self_eq_true, Int.reduceToNat]
  (refine ⟨by (trivial), hK _ ?_⟩)
  clear hK K
  refine AWP.ret ?_
  subst hR
  (simp only [en, si, ea, gv, sv, hk, reduceCtorEq, reduceIte, Nat.reduceBEq, Nat.reduceAdd, Nat.reduceEqDiff, Nat.reduceLT, Nat.reduceLeDiff, Nat.reduceMul, Nat.reduceSub, BEq.rfl, beq_self_eq_true, Int.reduceToNat]; done)
def D_spec_ReadEntry : DF
  | [x0] => some (.tup [.agg (eEntry ((spec_ReadEntry (rdS x0)).1)), .bool ((spec_ReadEntry (rdS x0)).2)], false, [wS x0, (rdS x0).length < 1099511627776, (rdS x0).length ≤ 1048576])
  | _ => none
theorem D_spec_ReadEntry_ok : OkD Tryz.prog 17 D_spec_ReadEntry := by
  intro xs r z ob h ho
  unfold D_spec_ReadEntry at h
  split at h
  · simp only [Option.some.injEq, Prod.mk.injEq] at h
    obtain ⟨rfl, rfl, rfl⟩ := h
    obtain ⟨h0, hb0, hp0, _⟩ := ho
    exact Den.sim (spec_ReadEntry_den _ hb0 hp0) (simOL_cons (wS_sim h0).1 <| trivial) (noIdL_cons (wS_sim h0).2 <| rfl) rfl
  · cases h
end Go.Ab

namespace Go.Ab
open Go Go.Proofs
theorem laws_eqEntry_DD : DOk Tryz.prog (DD []) := DD_nil _
def laws_eqEntry (a0 : Entry) (a1 : Entry) : Bool :=
  (bif (a0.Day != a1.Day) then false else (bif (a0.Item != a1.Item) then false else (bif (a0.Amount != a1.Amount) then false else true)))
theorem laws_eqEntry_den (a0 : Entry) (a1 : Entry)  : Den Tryz.prog 18 [.agg (eEntry a0), .agg (eEntry a1)] (.bool (laws_eqEntry a0 a1)) := by
  generalize hR : laws_eqEntry a0 a1 = r
  unfold laws_eqEntry at hR
  refine den_intro G_ok Tryz.func18 (by kernel_rfl) rfl Tryz.ntmps18 (by rw [Tryz.results18]) (by simp) rfl ?_
  intro c hL hc hk
  obtain ⟨hL0, hL1, _⟩ := hL
  have hw0 : bwEntry a0 := Entry_lens a0 hL0
  have hw1 : bwEntry a1 := Entry_lens a1 hL1
  clear hL0 hL1
  simp only [pars, Nat.zero_add]
  refine AWP.seq ?_
  refine AWP.regS G_ok laws_eqEntry_DD hc (by kernel_rfl) (fun K hK => ?_); simp only [ea, gv, sv, reduceCtorEq, reduceIte, Nat.reduceBEq, Nat.reduceAdd, Nat.reduceEqDiff, Nat.reduceLT, Nat.reduceLeDiff, Nat.reduceMul, Nat.reduceSub, BEq.rfl, beq_self_eq_true, Int.reduceToNat]
  (refine hK _ ?_)
  clear hK K
  refine AWP.seq ?_
  refine AWP.seq ?_
  refine AWP.regS G_ok laws_eqEntry_DD hc (by kernel_rfl) (fun K hK => ?_); simp only [ea, gv, sv, reduceCtorEq, reduceIte, Nat.reduceBEq, Nat.reduceAdd, Nat.reduceEqDiff, Nat.reduceLT, Nat.reduceLeDiff, Nat.reduceMul, Nat.reduceSub, BEq.rfl, beq_self_eq_true, Int.reduceToNat]
  (refine hK _ ?_)
  clear hK K
  refine AWP.cond rfl (fun hb => ?_) (fun hb => ?_)
  · (simp only [hb, cond_true] at hR)
    refine AWP.seq ?_
    refine AWP.regS G_ok laws_eqEntry_DD hc (by kernel_rfl) (fun K hK => ?_); simp only [ea, gv, sv, reduceCtorEq, reduceIte, Nat.reduceBEq, Nat.reduceAdd, Nat.reduceEqDiff, Nat.reduceLT, Nat.reduceLeDiff, Nat.reduceMul, Nat.reduceSub, BEq.rfl, beq_self_eq_true, Int.reduceToNat]
    (refine hK _ ?_)
    clear hK K
    refine AWP.ret ?_
    subst hR
    (simp only [en, si, ea, gv, sv, hk, reduceCtorEq, reduceIte, Nat.reduceBEq, Nat.reduceAdd, Nat.reduceEqDiff, Nat.reduceLT, Nat.reduceLeDiff, Nat.reduceMul, Nat.reduceSub, BEq.rfl, beq_self_eq_true, Int.reduceToNat]; done)
  · (simp only [hb, cond_false] at hR)
    refine AWP.skip ?_
    refine AWP.seq ?_
    refine AWP.seq ?_
    refine AWP.regS G_ok laws_eqEntry_DD hc (by kernel_rfl) (fun K hK => ?_); simp only [ea, gv, sv, reduceCtorEq, reduceIte, Nat.reduceBEq, Nat.reduceAdd, Nat.reduceEqDiff, Nat.reduceLT, Nat.reduceLeDiff, Nat.reduceMul, Nat.reduceSub, BEq.rfl, beq_self_eq_true, Int.reduceToNat]
    (refine hK _ ?_)
    clear hK K
    refine AWP.cond rfl (fun hb => ?_) (fun hb => ?_)
    · (simp only [hb, cond_true] at hR)
      refine AWP.seq ?_
      refine AWP.regS G_ok laws_eqEntry_DD hc (by kernel_rfl) (fun K hK => ?_); simp only [ea, gv, sv, reduceCtorEq, reduceIte, Nat.reduceBEq, Nat.reduceAdd, Nat.reduceEqDiff, Nat.reduceLT, Nat.reduceLeDiff, Nat.reduceMul, Nat.reduceSub, BEq.rfl, beq_self_eq_true, Int.reduceToNat]
      (refine hK _ ?_)
      clear hK K
      refine AWP.ret ?_
      subst hR
      (simp only [en, si, ea, gv, sv, hk, reduceCtorEq, reduceIte, Nat.reduceBEq, Nat.reduceAdd, Nat.reduceEqDiff, Nat.reduceLT, Nat.reduceLeDiff, Nat.reduceMul, Nat.reduceSub, BEq.rfl, beq_self_eq_true, Int.reduceToNat]; done)
    · (simp only [hb, cond_false] at hR)
      refine AWP.skip ?_
      refine AWP.seq ?_
      refine AWP.seq ?_
      refine AWP.regS G_ok laws_eqEntry_DD hc (by kernel_rfl) (fun K hK => ?_); simp only [ea, gv, sv, reduceCtorEq, reduceIte, Nat.reduceBEq, Nat.reduceAdd, Nat.reduceEqDiff, Nat.reduceLT, Nat.reduceLeDiff, Nat.reduceMul, Nat.reduceSub, BEq.rfl, beq_self_eq_true, Int.reduceToNat]
      (refine hK _ ?_)
      clear hK K
      refine AWP.cond rfl (fun hb => ?_) (fun hb => ?_)
      · (simp only [hb, cond_true] at hR)
        refine AWP.seq ?_
        refine AWP.regS G_ok laws_eqEntry_DD hc (by kernel_rfl) (fun K hK => ?_); simp only [ea, gv, sv, reduceCtorEq, reduceIte, Nat.reduceBEq, Nat.reduceAdd, Nat.reduceEqDiff, Nat.reduceLT, Nat.reduceLeDiff, Nat.reduceMul, Nat.reduceSub, BEq.rfl, beq_self_eq_true, Int.reduceToNat]
        (refine hK _ ?_)
        clear hK K
        refine AWP.ret ?_
        subst hR
        (simp only [en, si, ea, gv, sv, hk, reduceCtorEq, reduceIte, Nat.reduceBEq, Nat.reduceAdd, Nat.reduceEqDiff, Nat.reduceLT, Nat.reduceLeDiff, Nat.reduceMul, Nat.reduceSub, BEq.rfl, beq_self_eq_true, Int.reduceToNat]; done)
      · (simp only [hb, cond_false] at hR)
        refine AWP.skip ?_
        refine AWP.seq ?_
        refine AWP.regS G_ok laws_eqEntry_DD hc (by kernel_rfl) (fun K hK => ?_); simp only [ea, gv, sv, reduceCtorEq, reduceIte, Nat.reduceBEq, Nat.reduceAdd, Nat.reduceEqDiff, Nat.reduceLT, Nat.reduceLeDiff, Nat.reduceMul, Nat.reduceSub, BEq.rfl, beq_self_eq_true, Int.reduceToNat]
        (refine hK _ ?_)
        clear hK K
        refine AWP.ret ?_
        subst hR
        (simp only [en, si, ea, gv, sv, hk, reduceCtorEq, reduceIte, Nat.reduceBEq, Nat.reduceAdd, Nat.reduceEqDiff, Nat.reduceLT, Nat.reduceLeDiff, Nat.reduceMul, Nat.reduceSub, BEq.rfl, beq_self_eq_true, Int.reduceToNat]; done)
def D_laws_eqEntry : DF
  | [x0, x1] => some (.bool (laws_eqEntry (rdG dEntry x0) (rdG dEntry x1)), false, [wG eEntry dEntry x0, wG eEntry dEntry x1])
  | _ => none
theorem D_laws_eqEntry_ok : OkD Tryz.prog 18 D_laws_eqEntry := by
  intro xs r z ob h ho
  unfold D_laws_eqEntry at h
  split at h
  · simp only [Option.some.injEq, Prod.mk.injEq] at h
    obtain ⟨rfl, rfl, rfl⟩ := h
    obtain ⟨h0, h1, _⟩ := ho
    exact Den.sim (laws_eqEntry_den _ _ ) (simOL_cons (wG_sim h0).1 <| simOL_cons (wG_sim h1).1 <| trivial) (noIdL_cons (wG_sim h0).2 <| noIdL_cons (wG_sim h1).2 <| rfl) rfl
  · cases h
end Go.Ab

namespace Go.Ab
open Go Go.Proofs
theorem laws_FnExactReadEntry_DD : DOk Tryz.prog (DD [(11, dP D_impl_ReadEntry), (17, dP D_spec_ReadEntry), (18, dP D_laws_eqEntry)]) := DD_cons D_impl_ReadEntry_ok.e <| DD_cons D_spec_ReadEntry_ok.e <| DD_cons D_laws_eqEntry_ok.e <| DD_nil _
def laws_FnExactReadEntry (a0 : (List UInt8)) : Bool :=
  (bif decide (1048576 < (a0.length : Int)) then true else (bif ((!(laws_eqEntry ((impl_ReadEntry a0).1) ((spec_ReadEntry a0).1))) || (!(((impl_ReadEntry a0).2) == ((spec_ReadEntry a0).2)))) then false else true))
theorem laws_FnExactReadEntry_den (a0 : (List UInt8))  : Den Tryz.prog 4 [.str a0] (.bool (laws_FnExactReadEntry a0)) := by
  generalize hR : laws_FnExactReadEntry a0 = r
  unfold laws_FnExactReadEntry at hR
  refine den_intro G_ok Tryz.func4 (by kernel_rfl) rfl Tryz.ntmps4 (by rw [Tryz.results4]) (by simp) rfl ?_
  intro c hL hc hk
  obtain ⟨hL0, _⟩ := hL
  have hw0 : a0.length < 9223372036854775808 := Nat.lt_succ_of_le hL0
  clear hL0
  simp only [pars, Nat.zero_add]
  refine AWP.seq ?_
  refine AWP.regS G_ok laws_FnExactReadEntry_DD hc (by kernel_rfl) (fun K hK => ?_); simp only [ea, gv, sv, D_impl_ReadEntry, D_spec_ReadEntry, D_laws_eqEntry, reduceCtorEq, reduceIte, Nat.reduceBEq, Nat.reduceAdd, Nat.reduceEqDiff, Nat.reduceLT, Nat.reduceLeDiff, Nat.reduceMul, Nat.reduceSub, BEq.rfl, beq_self_eq_true, Int.reduceToNat]
  (refine hK _ ?_)
  clear hK K
  refine AWP.seq ?_
  refine AWP.seq ?_
  refine AWP.regS G_ok laws_FnExactReadEntry_DD hc (by kernel_rfl) (fun K hK => ?_); simp only [ea, gv, sv, D_impl_ReadEntry, D_spec_ReadEntry, D_laws_eqEntry, reduceCtorEq, reduceIte, Nat.reduceBEq, Nat.reduceAdd, Nat.reduceEqDiff, Nat.reduceLT, Nat.reduceLeDiff, Nat.reduceMul, Nat.reduceSub, BEq.rfl, beq_self_eq_true, Int.reduceToNat]
  (refine hK _ ?_)
  clear hK K
  refine AWP.cond rfl (fun hb => ?_) (fun hb => ?_)
  · (simp only [hb, cond_true] at hR)
    refine AWP.seq ?_
    refine AWP.regS G_ok laws_FnExactReadEntry_DD hc (by kernel_rfl) (fun K hK => ?_); simp only [ea, gv, sv, D_impl_ReadEntry, D_spec_ReadEntry, D_laws_eqEntry, reduceCtorEq, reduceIte, Nat.reduceBEq, Nat.reduceAdd, Nat.reduceEqDiff, Nat.reduceLT, Nat.reduceLeDiff, Nat.reduceMul, Nat.reduceSub, BEq.rfl, beq_self_eq_true, Int.reduceToNat]
    (refine hK _ ?_)
    clear hK K
    refine AWP.ret ?_
    subst hR
    (simp only [en, si, ea, gv, sv, hk, reduceCtorEq, reduceIte, Nat.reduceBEq, Nat.reduceAdd, Nat.reduceEqDiff, Nat.reduceLT, Nat.reduceLeDiff, Nat.reduceMul, Nat.reduceSub, BEq.rfl, beq_self_eq_true, Int.reduceToNat]; done)
  · (simp only [hb, cond_false] at hR)
    refine AWP.skip ?_
    refine AWP.seq ?_
    refine AWP.regS G_ok laws_FnExactReadEntry_DD hc (by kernel_rfl) (fun K hK => ?_); simp only [ea, gv, sv, D_impl_ReadEntry, D_spec_ReadEntry, D_laws_eqEntry, reduceCtorEq, reduceIte, Nat.reduceBEq, Nat.reduceAdd, Nat.reduceEqDiff, Nat.reduceLT, Nat.reduceLeDiff, Nat.reduceMul, Nat.reduceSub, BEq.rfl, beq_self_eq_true, Int.reduceToNat]
    (refine ⟨by ((simp only [ob, ln, bdv, sv] at *; omega)), hK _ ?_⟩)
    clear hK K
    refine AWP.seq ?_
    refine AWP.regS G_ok laws_FnExactReadEntry_DD hc (by kernel_rfl) (fun K hK => ?_); simp only [ea, gv, sv, D_impl_ReadEntry, D_spec_ReadEntry, D_laws_eqEntry, reduceCtorEq, reduceIte, Nat.reduceBEq, Nat.reduceAdd, Nat.reduceEqDiff, Nat.reduceLT, Nat.reduceLeDiff, Nat.reduceMul, Nat.reduceSub, BEq.rfl, beq_self_eq_true, Int.reduceToNat]
    (refine ⟨by ((simp only [ob, ln, bdv, sv] at *; omega)), hK _ ?_⟩)
    clear hK K
    refine AWP.seq ?_
    refine AWP.seq ?_
    refine AWP.regS G_ok laws_FnExactReadEntry_DD hc (by kernel_rfl) (fun K hK => ?_); simp only [ea, gv, sv, D_impl_ReadEntry, D_spec_ReadEntry, D_laws_eqEntry, reduceCtorEq, reduceIte, Nat.reduceBEq, Nat.reduceAdd, Nat.reduceEqDiff, Nat.reduceLT, Nat.reduceLeDiff, Nat.reduceMul, Nat.reduceSub, BEq.rfl, beq_self_eq_true, Int.reduceToNat]
    (refine hK _ ?_)
    clear hK K
    refine AWP.cond rfl (fun hb => ?_) (fun hb => ?_)
    · (simp only [hb, cond_true] at hR)
      refine AWP.seq ?_
      refine AWP.regS G_ok laws_FnExactReadEntry_DD hc (by kernel_rfl) (fun K hK => ?_); simp only [ea, gv, sv, D_impl_ReadEntry, D_spec_ReadEntry, D_laws_eqEntry, reduceCtorEq, reduceIte, Nat.reduceBEq, Nat.reduceAdd, Nat.reduceEqDiff, Nat.reduceLT, Nat.reduceLeDiff, Nat.reduceMul, Nat.reduceSub, BEq.rfl, beq_self_eq_true, Int.reduceToNat]
      (refine hK _ ?_)
      clear hK K
      refine AWP.ret ?_
      subst hR
      (simp only [en, si, ea, gv, sv, hk, reduceCtorEq, reduceIte, Nat.reduceBEq, Nat.reduceAdd, Nat.reduceEqDiff, Nat.reduceLT, Nat.reduceLeDiff, Nat.reduceMul, Nat.reduceSub, BEq.rfl, beq_self_eq_true, Int.reduceToNat]; done)
    · (simp only [hb, cond_false] at hR)
      refine AWP.skip ?_
      refine AWP.seq ?_
      refine AWP.regS G_ok laws_FnExactReadEntry_DD hc (by kernel_rfl) (fun K hK => ?_); simp only [ea, gv, sv, D_impl_ReadEntry, D_spec_ReadEntry, D_laws_eqEntry, reduceCtorEq, reduceIte, Nat.reduceBEq, Nat.reduceAdd, Nat.reduceEqDiff, Nat.reduceLT, Nat.reduceLeDiff, Nat.reduceMul, Nat.reduceSub, BEq.rfl, beq_self_eq_true, Int.reduceToNat]
      (refine hK _ ?_)
      clear hK K
      refine AWP.ret ?_
      subst hR
      (simp only [en, si, ea, gv, sv, hk, reduceCtorEq, reduceIte, Nat.reduceBEq, Nat.reduceAdd, Nat.reduceEqDiff, Nat.reduceLT, Nat.reduceLeDiff, Nat.reduceMul, Nat.reduceSub, BEq.rfl, beq_self_eq_true, Int.reduceToNat]; done)
def D_laws_FnExactReadEntry : DF
  | [x0] => some (.bool (laws_FnExactReadEntry (rdS x0)), false, [wS x0])
  | _ => none
theorem D_laws_FnExactReadEntry_ok : OkD Tryz.prog 4 D_laws_FnExactReadEntry := by
  intro xs r z ob h ho
  unfold D_laws_FnExactReadEntry at h
  split at h
  · simp only [Option.some.injEq, Prod.mk.injEq] at h
    obtain ⟨rfl, rfl, rfl⟩ := h
    obtain ⟨h0, _⟩ := ho
    exact Den.sim (laws_FnExactReadEntry_den _ ) (simOL_cons (wS_sim h0).1 <| trivial) (noIdL_cons (wS_sim h0).2 <| rfl) rfl
  · cases h
end Go.Ab

namespace Go.Ab
open Go Go.Proofs
def joinC (c : UInt8) : List (List UInt8) → List UInt8
  | [] => []
  | [x] => x
  | x :: y :: r => x ++ c :: joinC c (y :: r)
theorem join_split (c : UInt8) : ∀ l, joinC c (splitC c l) = l
  | [] => rfl
  | b :: l => by
    have ih := join_split c l
    simp only [splitC]
    split
    · rename_i h
      obtain ⟨x, r, e⟩ := List.exists_cons_of_ne_nil (splitC_ne c l)
      rw [e] at ih ⊢
      simp only [joinC, List.nil_append]
      rw [ih, h]
    · obtain ⟨x, r, e⟩ := List.exists_cons_of_ne_nil (splitC_ne c l)
      rw [e] at ih ⊢
      simp only
      cases r with
      | nil => simp only [joinC] at ih ⊢; rw [ih]
      | cons y r => simp only [joinC, List.cons_append] at ih ⊢; rw [ih]
theorem entryOk (e : Entry) : impl_isEntry e = spec_l29Entry e := by
  unfold impl_isEntry spec_l29Entry
  rw [name_eq]; rfl
def EP (a : List UInt8) (e : Entry) : Prop := spec_l29Entry e = true ∧ a = impl_EntryText e
theorem entry_text {e : Entry} (h : spec_l29Entry e = true) : impl_EntryText e = impl_DateText e.Day ++ 32 :: (e.Item ++ 32 :: Lib.itoa e.Amount) ∧ 0 ≤ e.Day ∧ e.Day ≤ 99999 ∧ e.Amount.natAbs < E18 ∧ impl_IsName e.Item = true := by
  have hr := spec_l29Entry_rng e h
  refine ⟨?_, hr.1, hr.2.1, by unfold E18; omega, ?_⟩
  · unfold impl_EntryText
    rw [entryOk, h]
    simp only [Bool.not_true, cond_false, impl_Decimal_eq]
    simp
  · rw [name_eq]
    simp only [spec_l29Entry, Bool.and_eq_true] at h
    exact h.1.1.2
theorem no32_date {a : Int} (h1 : 0 ≤ a) (h2 : a ≤ 99999) : (32 : UInt8) ∉ impl_DateText a ∧ impl_DateText a ≠ [] ∧ (impl_DateText a).length ≤ 1048576 := by
  obtain ⟨y, m, d, _, _, _, _, _, _, _, _, e⟩ := dateText_D10 h1 h2
  obtain ⟨p1, _⟩ := pad4_dig (y := y) (by omega)
  obtain ⟨p3, _⟩ := pad2_dig (m := m) (by omega)
  obtain ⟨p5, _⟩ := pad2_dig (m := d) (by omega)
  rw [e]
  refine ⟨fun hm => ?_, by simp [D10, pad4], by simp [D10, pad4, pad2]⟩
  unfold D10 at hm
  simp only [List.mem_append, List.mem_cons] at hm
  rcases hm with hm | hm | hm | hm | hm
  · have := p1 32 hm; simp at this
  · simp at hm
  · have := p3 32 hm; simp at this
  · simp at hm
  · have := p5 32 hm; simp at this
theorem no32_itoa (n : Int) : (32 : UInt8) ∉ Lib.itoa n ∧ Lib.itoa n ≠ [] := by
  obtain ⟨d1, _, d3, _⟩ := decDigits_all n.natAbs
  by_cases h : n < 0
  · rw [itoa_neg' h]
    refine ⟨fun hm => ?_, by simp⟩
    rcases List.mem_cons.1 hm with hm | hm
    · simp at hm
    · have := d1 32 hm; simp at this
  · rw [itoa_nn h]
    exact ⟨fun hm => by have := d1 32 hm; simp at this, d3⟩
theorem no32_name {s : List UInt8} (h : impl_IsName s = true) : (32 : UInt8) ∉ s ∧ s ≠ [] := by
  obtain ⟨h1, _, h3⟩ := (isName_iff s).1 h
  refine ⟨fun hm => ?_, h1⟩
  obtain ⟨j, hj, e⟩ := List.getElem_of_mem hm
  have := h3 j hj
  have hg : s.getD j 0 = 32 := by simp [List.getD, List.getElem?_eq_getElem hj, e]
  rw [hg] at this
  rcases this with ⟨h, _⟩ | ⟨_, h, _⟩ <;> simp at h
theorem split_entry {e : Entry} (h : spec_l29Entry e = true) : splitC 32 (impl_EntryText e) = [impl_DateText e.Day, e.Item, Lib.itoa e.Amount] := by
  obtain ⟨ht, h1, h2, h3, h4⟩ := entry_text h
  rw [ht, splitC_cons _ _ _ (no32_date h1 h2).1, splitC_cons _ _ _ (no32_name h4).1, splitC_none _ _ (no32_itoa e.Amount).1]
theorem read_date_text {a : Int} (h1 : 0 ≤ a) (h2 : a ≤ 99999) : spec_l03Read (impl_DateText a) = (a, true) := by
  rcases l03Read_spec (impl_DateText a) with ⟨a', h1', h2', e, h⟩ | ⟨h, _⟩
  · rw [h, dateText_inj h1 h2 h1' h2' e]
  · exact absurd rfl (h a h1 h2)
theorem read_itoa {n : Int} (h : n.natAbs < E18) (hl : (Lib.itoa n).length ≤ 1048576) : spec_l01Number (Lib.itoa n) = (n, true) := by
  rcases l01Number_spec (Lib.itoa n) hl with ⟨n', h', e, hr⟩ | ⟨hn, _⟩
  · rw [hr, itoa_inj e]
  · exact absurd rfl (hn n h)
abbrev E0 : Entry := { Day := 0, Item := [], Amount := 0 }
theorem l01Split_32 (a : List UInt8) (ha : a.length ≤ 1048576) : spec_l01Split a 32 = splitC 32 a := spec_l01Split_eq a 32 (by omega)
theorem spec_read1 (a : List UInt8) (ha : a.length ≤ 1048576) : spec_l29Read a = (E0, false) ∨ ∃ e, EP a e := by
  unfold spec_l29Read
  rw [l01Split_32 a ha]
  cases hl : (((splitC 32 a).length : Int) != 3) with
  | true => left; rfl
  | false =>
    have hl : (splitC 32 a).length = 3 := by have h := hl; simp at h; omega
    obtain ⟨w0, w1, w2, e⟩ : ∃ w0 w1 w2, splitC 32 a = [w0, w1, w2] := by
      match splitC 32 a, hl with
      | [w0, w1, w2], _ => exact ⟨w0, w1, w2, rfl⟩
    have hj := join_split 32 a
    have hw2 : w2.length ≤ 1048576 := by
      have := (splitC_len 32 a).2 w2 (by rw [e]; simp); omega
    rw [e] at hj ⊢
    rw [cond_false]
    show (bif (((!((spec_l03Read w0).2)) || (!((spec_l01Number w2).2))) || (!(spec_l29Entry ({ Day := (spec_l03Read w0).1, Item := w1, Amount := (spec_l01Number w2).1 : Entry })))) then (E0, false) else ({ Day := (spec_l03Read w0).1, Item := w1, Amount := (spec_l01Number w2).1 : Entry }, true)) = _ ∨ _
    cases hc : (((!((spec_l03Read w0).2)) || (!((spec_l01Number w2).2))) || (!(spec_l29Entry ({ Day := (spec_l03Read w0).1, Item := w1, Amount := (spec_l01Number w2).1 : Entry })))) with
    | true => left; rfl
    | false =>
      right
      rw [Bool.or_eq_false_iff, Bool.or_eq_false_iff] at hc
      obtain ⟨⟨c1, c2⟩, c3⟩ := hc
      have c3 : spec_l29Entry ({ Day := (spec_l03Read w0).1, Item := w1, Amount := (spec_l01Number w2).1 : Entry }) = true := by simpa using c3
      refine ⟨_, c3, ?_⟩
      rw [(entry_text c3).1]
      simp only
      rcases l03Read_spec w0 with ⟨d, _, _, e0, hr⟩ | ⟨_, hr⟩
      · rcases l01Number_spec w2 hw2 with ⟨n, _, e2, hr2⟩ | ⟨_, hr2⟩
        · rw [hr, hr2]
          simp only
          rw [← e0, ← e2]
          simpa [joinC] using hj.symm
        · rw [hr2] at c2; simp at c2
      · rw [hr] at c1; simp at c1
theorem itoa_len3 {n : Int} (h : n.natAbs < E18) : (Lib.itoa n).length ≤ 1048576 := by
  have h18 := (decDigits_len18 n.natAbs).2 h
  by_cases hn : n < 0
  · rw [itoa_neg' hn]; simp only [List.length_cons]; omega
  · rw [itoa_nn hn]; omega
theorem spec_read2 (a : List UInt8) (ha : a.length ≤ 1048576) (e : Entry) (h : EP a e) : spec_l29Read a = (e, true) := by
  obtain ⟨hv, ht⟩ := h
  obtain ⟨_, h1, h2, h3, h4⟩ := entry_text hv
  unfold spec_l29Read
  rw [l01Split_32 a ha, ht, split_entry hv]
  show (bif (((!((spec_l03Read (impl_DateText e.Day)).2)) || (!((spec_l01Number (Lib.itoa e.Amount)).2))) || (!(spec_l29Entry ({ Day := (spec_l03Read (impl_DateText e.Day)).1, Item := e.Item, Amount := (spec_l01Number (Lib.itoa e.Amount)).1 : Entry })))) then (E0, false) else ({ Day := (spec_l03Read (impl_DateText e.Day)).1, Item := e.Item, Amount := (spec_l01Number (Lib.itoa e.Amount)).1 : Entry }, true)) = _
  rw [read_date_text h1 h2, read_itoa h3 (itoa_len3 h3)]
  simp only
  rw [show ({ Day := e.Day, Item := e.Item, Amount := e.Amount : Entry }) = e from rfl, hv]
  rfl
theorem impl_read1 (a : List UInt8) (ha : a.length ≤ 1048576) : impl_ReadEntry a = (E0, false) ∨ ∃ e, EP a e := by
  unfold impl_ReadEntry
  rw [impl_SplitWords_eq]
  cases hl : ((((splitC 32 a).filter (· != [])).length : Int) != 3) with
  | true => left; rfl
  | false =>
    rw [cond_false]
    generalize hq : ({ Day := (impl_ReadDate (((splitC 32 a).filter (· != [])).getD 0 default)).1, Item := (((splitC 32 a).filter (· != [])).getD 1 default), Amount := (impl_ReadDecimal (((splitC 32 a).filter (· != [])).getD 2 default)).1 : Entry }) = e
    cases hc : (((!((impl_ReadDate (((splitC 32 a).filter (· != [])).getD 0 default)).2)) || (!((impl_ReadDecimal (((splitC 32 a).filter (· != [])).getD 2 default)).2))) || ((impl_EntryText e) != a)) with
    | true => left; rfl
    | false =>
      right
      rw [Bool.or_eq_false_iff] at hc
      have ht : impl_EntryText e = a := by simpa using hc.2
      refine ⟨e, ?_, ht.symm⟩
      cases hv : spec_l29Entry e with
      | true => rfl
      | false =>
        exfalso
        have : impl_EntryText e = [] := by unfold impl_EntryText; rw [entryOk, hv]; rfl
        rw [this] at ht
        subst ht
        simp [splitC] at hl
theorem impl_read2 (a : List UInt8) (ha : a.length ≤ 1048576) (e : Entry) (h : EP a e) : impl_ReadEntry a = (e, true) := by
  obtain ⟨hv, ht⟩ := h
  obtain ⟨_, h1, h2, h3, h4⟩ := entry_text hv
  have hf : (splitC 32 a).filter (· != []) = [impl_DateText e.Day, e.Item, Lib.itoa e.Amount] := by
    rw [ht, split_entry hv]
    have n1 := (no32_date h1 h2).2.1
    have n2 := (no32_name h4).2
    have n3 := (no32_itoa e.Amount).2
    simp [List.filter_cons, n1, n2, n3]
  unfold impl_ReadEntry
  rw [impl_SplitWords_eq, hf]
  show (bif (((!((impl_ReadDate (impl_DateText e.Day)).2)) || (!((impl_ReadDecimal (Lib.itoa e.Amount)).2))) || ((impl_EntryText ({ Day := (impl_ReadDate (impl_DateText e.Day)).1, Item := e.Item, Amount := (impl_ReadDecimal (Lib.itoa e.Amount)).1 : Entry })) != a)) then (E0, false) else ({ Day := (impl_ReadDate (impl_DateText e.Day)).1, Item := e.Item, Amount := (impl_ReadDecimal (Lib.itoa e.Amount)).1 : Entry }, true)) = _
  have hd : impl_ReadDecimal (Lib.itoa e.Amount) = readDecL (Lib.itoa e.Amount) := rfl
  rw [date_read_eq _ (no32_date h1 h2).2.2, read_date_text h1 h2, hd, number_eq _ (itoa_len3 h3), read_itoa h3 (itoa_len3 h3)]
  simp only
  rw [show ({ Day := e.Day, Item := e.Item, Amount := e.Amount : Entry }) = e from rfl, ← ht]
  simp
theorem readEntry_eq (a : List UInt8) (ha : a.length ≤ 1048576) : impl_ReadEntry a = spec_ReadEntry a := by
  have hs : spec_ReadEntry a = spec_l29Read a := rfl
  rw [hs]
  by_cases h : ∃ e, EP a e
  · obtain ⟨e, he⟩ := h
    rw [impl_read2 a ha e he, spec_read2 a ha e he]
  · rw [(impl_read1 a ha).resolve_right h, (spec_read1 a ha).resolve_right h]
theorem law_ReadEntry (a0 : List UInt8) (hf : a0.length < 9223372036854775808) : laws_FnExactReadEntry a0 = true := by
  unfold laws_FnExactReadEntry
  by_cases h : 1048576 < (a0.length : Int)
  · simp [h]
  · have hh : decide (1048576 < (a0.length : Int)) = false := by simpa using h
    rw [hh, cond_false, readEntry_eq a0 (by omega)]
    simp [laws_eqEntry]
end Go.Ab

namespace Go.Ab
open Go Go.Proofs Go.Deep Go.ChangeShapes Go.WideShapes Go.ChangeAt Go.RowKit
set_option maxRecDepth 100000
end Go.Ab
