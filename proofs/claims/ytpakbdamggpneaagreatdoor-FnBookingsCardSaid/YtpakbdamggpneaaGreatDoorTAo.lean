/- A part of a proof: walks of functions and lemmas of our own. No conditions. -/
import Derived.Test.YtpakbdamggpneaaGreatDoorTAk
import Derived.Test.YtpakbdamggpneaaGreatDoorTAn
import Derived.Test.YtpakbdamggpneaaGreatDoorTAi
set_option linter.unusedSectionVars false
set_option linter.unusedVariables false
set_option linter.unusedSimpArgs false
namespace Go.Ab
open Go Go.Proofs
theorem impl_Store_sums_DD : DOk Tryz.prog (DD []) := DD_nil _
def impl_Store_sums_b1 (a0 : Store) (a1 : (List UInt8)) (i1 : Nat) (s1 : Int × List Int × List Int) : Except (((List Int) × (List Int))) (Int × List Int × List Int) :=
  (bif (((a0.Entries.getD i1 default).Item) == a1) then .ok (IntKind.wrap .i64 (s1.1 + ((a0.Entries.getD i1 default).Amount)), s1.2.1 ++ [(a0.Entries.getD i1 default).Day], s1.2.2 ++ [IntKind.wrap .i64 (s1.1 + ((a0.Entries.getD i1 default).Amount))]) else .ok (s1.1, s1.2.1, s1.2.2))
def impl_Store_sums (a0 : Store) (a1 : (List UInt8)) : ((List Int) × (List Int)) :=
  (match loopR (impl_Store_sums_b1 a0 a1) (a0.Entries.length - 0) 0 (0, ([] : List Int), ([] : List Int)) with | .error e => e | .ok s1 => (s1.2.1, s1.2.2))
theorem impl_Store_sums_den (a0 : Store) (a1 : (List UInt8)) (hb0 : bdStore a0) (hb1 : a1.length < 1099511627776) : Den Tryz.prog 72 [.agg (eStore a0), .str a1] (.tup [ownL 2 1 eIi64 ((impl_Store_sums a0 a1).1), ownL 2 1 eIi64 ((impl_Store_sums a0 a1).2)]) := by
  generalize hR : impl_Store_sums a0 a1 = r
  unfold impl_Store_sums at hR
  refine den_intro G_ok Tryz.func72 (by kernel_rfl) rfl Tryz.ntmps72 (by rw [Tryz.results72]) (by simp) rfl ?_
  intro c hL hc hk
  obtain ⟨hL0, hL1, _⟩ := hL
  have hw0 : bwStore a0 := Store_lens a0 hL0
  have hw1 : a1.length < 9223372036854775808 := Nat.lt_succ_of_le hL1
  clear hL0 hL1
  simp only [pars, Nat.zero_add]
  refine AWP.seq ?_
  refine AWP.regS G_ok impl_Store_sums_DD hc (by kernel_rfl) (fun K hK => ?_); simp only [ea, gv, sv, reduceCtorEq, reduceIte, Nat.reduceBEq, Nat.reduceAdd, Nat.reduceEqDiff, Nat.reduceLT, Nat.reduceLeDiff, Nat.reduceMul, Nat.reduceSub, BEq.rfl, beq_self_eq_true, Int.reduceToNat]
  (refine hK _ ?_)
  clear hK K
  refine AWP.seq ?_
  refine AWP.regS G_ok impl_Store_sums_DD hc (by kernel_rfl) (fun K hK => ?_); simp only [ea, gv, sv, reduceCtorEq, reduceIte, Nat.reduceBEq, Nat.reduceAdd, Nat.reduceEqDiff, Nat.reduceLT, Nat.reduceLeDiff, Nat.reduceMul, Nat.reduceSub, BEq.rfl, beq_self_eq_true, Int.reduceToNat]
  (refine hK _ ?_)
  clear hK K
  refine AWP.seq ?_
  refine AWP.regS G_ok impl_Store_sums_DD hc (by kernel_rfl) (fun K hK => ?_); simp only [ea, gv, sv, reduceCtorEq, reduceIte, Nat.reduceBEq, Nat.reduceAdd, Nat.reduceEqDiff, Nat.reduceLT, Nat.reduceLeDiff, Nat.reduceMul, Nat.reduceSub, BEq.rfl, beq_self_eq_true, Int.reduceToNat]
  (refine hK _ ?_)
  clear hK K
  refine AWP.seq ?_
  refine AWP.seq ?_
  refine AWP.regS G_ok impl_Store_sums_DD hc (by kernel_rfl) (fun K hK => ?_); simp only [ea, gv, sv, reduceCtorEq, reduceIte, Nat.reduceBEq, Nat.reduceAdd, Nat.reduceEqDiff, Nat.reduceLT, Nat.reduceLeDiff, Nat.reduceMul, Nat.reduceSub, BEq.rfl, beq_self_eq_true, Int.reduceToNat]
  (refine hK _ ?_)
  clear hK K
  refine AWP.block ?_
  refine AWP.lensS 14 rfl (fun hLn1 => ?_)
  generalize hz1 : loopR (impl_Store_sums_b1 a0 a1) (a0.Entries.length - 0) 0 (0, ([] : List Int), ([] : List Int)) = z1 at hR
  refine AWP.range (impl_Store_sums_b1 a0 a1) (fun i1 s1 => ⟨[(1, .str a1), (6, .ref 0 1 0 s1.2.1.length), (7, .ref 1 1 0 s1.2.2.length), (8, .int .i64 s1.1), (14, encL 3 eEntry a0.Entries), (15, .int .i64 (a0.Entries.length : Int)), (16, .int .i64 (i1 : Int))], [.arr 2 1 s1.2.1.length (fun j => eIi64 (s1.2.1.getD j default)), .arr 2 1 s1.2.2.length (fun j => eIi64 (s1.2.2.getD j default))]⟩) (fun i1 s1 => s1.2.1.length ≤ ([] : List Int).length + 1 * i1 ∧ s1.2.2.length ≤ ([] : List Int).length + 1 * i1) (a0.Entries.length) 0 (0, ([] : List Int), ([] : List Int)) [1, 2] hz1 (by (omega)) (by (trivial)) (by (simp only [si, ea, gv, sv, hk, reduceCtorEq, reduceIte, Nat.reduceBEq, Nat.reduceAdd, Nat.reduceEqDiff, Nat.reduceLT, Nat.reduceLeDiff, Nat.reduceMul, Nat.reduceSub, BEq.rfl, beq_self_eq_true, Int.reduceToNat]; trivial)) ?_
  clear hz1
  intro i1 s1 hi1 hW1 hz1
  refine AWP.seq ?_
  refine AWP.regS G_ok impl_Store_sums_DD hc (by kernel_rfl) (fun K hK => ?_); simp only [ea, gv, sv, reduceCtorEq, reduceIte, Nat.reduceBEq, Nat.reduceAdd, Nat.reduceEqDiff, Nat.reduceLT, Nat.reduceLeDiff, Nat.reduceMul, Nat.reduceSub, BEq.rfl, beq_self_eq_true, Int.reduceToNat]
  (refine hK _ ?_)
  clear hK K
  refine AWP.seq ?_
  refine AWP.cond rfl (fun hb => ?_) (fun hb => ?_)
  · have hlt1 : i1 < a0.Entries.length := by ((simp only [ob, ln, bdv, sv] at *; omega))
    rw [loopR_lt hlt1] at hz1; simp only [impl_Store_sums_b1] at hz1
    refine AWP.skip ?_
    refine AWP.seq ?_
    refine AWP.block ?_
    refine AWP.seq ?_
    refine AWP.regS G_ok impl_Store_sums_DD hc (by kernel_rfl) (fun K hK => ?_); simp only [ea, gv, sv, reduceCtorEq, reduceIte, Nat.reduceBEq, Nat.reduceAdd, Nat.reduceEqDiff, Nat.reduceLT, Nat.reduceLeDiff, Nat.reduceMul, Nat.reduceSub, BEq.rfl, beq_self_eq_true, Int.reduceToNat]
    (refine ⟨by (omega), hK _ ?_⟩)
    clear hK K
    refine AWP.seq ?_
    refine AWP.regS G_ok impl_Store_sums_DD hc (by kernel_rfl) (fun K hK => ?_); simp only [ea, gv, sv, reduceCtorEq, reduceIte, Nat.reduceBEq, Nat.reduceAdd, Nat.reduceEqDiff, Nat.reduceLT, Nat.reduceLeDiff, Nat.reduceMul, Nat.reduceSub, BEq.rfl, beq_self_eq_true, Int.reduceToNat]
    (refine hK _ ?_)
    clear hK K
    refine AWP.cond rfl (fun hb => ?_) (fun hb => ?_)
    · (simp only [hb, cond_true] at hz1)
      refine AWP.seq ?_
      refine AWP.regS G_ok impl_Store_sums_DD hc (by kernel_rfl) (fun K hK => ?_); simp only [ea, gv, sv, reduceCtorEq, reduceIte, Nat.reduceBEq, Nat.reduceAdd, Nat.reduceEqDiff, Nat.reduceLT, Nat.reduceLeDiff, Nat.reduceMul, Nat.reduceSub, BEq.rfl, beq_self_eq_true, Int.reduceToNat]
      (refine hK _ ?_)
      clear hK K
      refine AWP.regS G_ok impl_Store_sums_DD hc (by kernel_rfl) (fun K hK => ?_); simp only [ea, gv, sv, reduceCtorEq, reduceIte, Nat.reduceBEq, Nat.reduceAdd, Nat.reduceEqDiff, Nat.reduceLT, Nat.reduceLeDiff, Nat.reduceMul, Nat.reduceSub, BEq.rfl, beq_self_eq_true, Int.reduceToNat]
      (refine ⟨by (((try clear hK K); (repeat' (apply And.intro)) <;> first | omega | (simp only [ob, ln, bdv, sv] at *; omega))), hK _ ?_⟩)
      clear hK K
      refine AWP.regS G_ok impl_Store_sums_DD hc (by kernel_rfl) (fun K hK => ?_); simp only [ea, gv, sv, reduceCtorEq, reduceIte, Nat.reduceBEq, Nat.reduceAdd, Nat.reduceEqDiff, Nat.reduceLT, Nat.reduceLeDiff, Nat.reduceMul, Nat.reduceSub, BEq.rfl, beq_self_eq_true, Int.reduceToNat]
      (refine hK _ ?_)
      clear hK K
      exact ⟨_, [4, 6], hlt1, by ((and_intros <;> simp only [ob, ln] at * <;> omega)), hz1, by (simp only [si, ea, gv, sv, hk, reduceCtorEq, reduceIte, Nat.reduceBEq, Nat.reduceAdd, Nat.reduceEqDiff, Nat.reduceLT, Nat.reduceLeDiff, Nat.reduceMul, Nat.reduceSub, BEq.rfl, beq_self_eq_true, Int.reduceToNat]; (and_intros <;> first | trivial | (rw [IntKind.wrap_i64]; omega) | (simp only [ln]; done) | (intro j hj; simp only [pw, Bool.cond_eq_ite, Bool.and_eq_true, decide_eq_true_eq]; (try rw [subL_getD _ _ _ _ (by assumption)]); (try rw [clearL_getD _ _ _ _ (by omega)]); (repeat' split) <;> first | rfl | omega)))⟩
    · (simp only [hb, cond_false] at hz1)
      refine AWP.skip ?_
      refine AWP.regS G_ok impl_Store_sums_DD hc (by kernel_rfl) (fun K hK => ?_); simp only [ea, gv, sv, reduceCtorEq, reduceIte, Nat.reduceBEq, Nat.reduceAdd, Nat.reduceEqDiff, Nat.reduceLT, Nat.reduceLeDiff, Nat.reduceMul, Nat.reduceSub, BEq.rfl, beq_self_eq_true, Int.reduceToNat]
      (refine hK _ ?_)
      clear hK K
      exact ⟨_, [0, 1], hlt1, by ((and_intros <;> simp only [ob, ln] at * <;> omega)), hz1, by (simp only [si, ea, gv, sv, hk, reduceCtorEq, reduceIte, Nat.reduceBEq, Nat.reduceAdd, Nat.reduceEqDiff, Nat.reduceLT, Nat.reduceLeDiff, Nat.reduceMul, Nat.reduceSub, BEq.rfl, beq_self_eq_true, Int.reduceToNat]; (and_intros <;> first | trivial | (rw [IntKind.wrap_i64]; omega)))⟩
  · obtain rfl : i1 = a0.Entries.length := by ((simp only [ob, ln, bdv, sv] at *; omega))
    rw [loopR_ge (Nat.le_refl _)] at hz1; subst hz1; dsimp only at hR
    refine AWP.exit ?_; refine exitTo_here ?_
    refine AWP.seq ?_
    refine AWP.regS G_ok impl_Store_sums_DD hc (by kernel_rfl) (fun K hK => ?_); simp only [ea, gv, sv, reduceCtorEq, reduceIte, Nat.reduceBEq, Nat.reduceAdd, Nat.reduceEqDiff, Nat.reduceLT, Nat.reduceLeDiff, Nat.reduceMul, Nat.reduceSub, BEq.rfl, beq_self_eq_true, Int.reduceToNat]
    (refine hK _ ?_)
    clear hK K
    refine AWP.ret ?_
    subst hR
    (simp only [en, si, ea, gv, sv, hk, reduceCtorEq, reduceIte, Nat.reduceBEq, Nat.reduceAdd, Nat.reduceEqDiff, Nat.reduceLT, Nat.reduceLeDiff, Nat.reduceMul, Nat.reduceSub, BEq.rfl, beq_self_eq_true, Int.reduceToNat]; (and_intros <;> omega))
def D_impl_Store_sums : DF
  | [x0, x1] => some (.tup [ownL 2 1 eIi64 ((impl_Store_sums (rdG dStore x0) (rdS x1)).1), ownL 2 1 eIi64 ((impl_Store_sums (rdG dStore x0) (rdS x1)).2)], false, [wG eStore dStore x0, wS x1, bdStore (rdG dStore x0), (rdS x1).length < 1099511627776])
  | _ => none
def Dz_impl_Store_sums : DF
  | [x0, x1] => some (.tup [ownL 2 1 eIi64 ((impl_Store_sums (rdG dStore x0) (rdS x1)).1), ownL 2 1 eIi64 ((impl_Store_sums (rdG dStore x0) (rdS x1)).2)], true, [wG eStore dStore x0, wS x1, bdStore (rdG dStore x0), (rdS x1).length < 1099511627776])
  | _ => none
theorem D_impl_Store_sums_ok : OkD Tryz.prog 72 D_impl_Store_sums := by
  intro xs r z ob h ho
  unfold D_impl_Store_sums at h
  split at h
  · simp only [Option.some.injEq, Prod.mk.injEq] at h
    obtain ⟨rfl, rfl, rfl⟩ := h
    obtain ⟨h0, h1, hb0, hb1, _⟩ := ho
    exact Den.sim (impl_Store_sums_den _ _ hb0 hb1) (simOL_cons (wG_sim h0).1 <| simOL_cons (wS_sim h1).1 <| trivial) (noIdL_cons (wG_sim h0).2 <| noIdL_cons (wS_sim h1).2 <| rfl) rfl
  · cases h
theorem Dz_impl_Store_sums_ok : OkD Tryz.prog 72 Dz_impl_Store_sums := by
  intro xs r z ob h ho
  unfold Dz_impl_Store_sums at h
  split at h
  · simp only [Option.some.injEq, Prod.mk.injEq] at h
    obtain ⟨rfl, rfl, rfl⟩ := h
    obtain ⟨h0, h1, hb0, hb1, _⟩ := ho
    exact Den.sim (impl_Store_sums_den _ _ hb0 hb1) (simOL_cons (wG_sim h0).1 <| simOL_cons (wS_sim h1).1 <| trivial) (noIdL_cons (wG_sim h0).2 <| noIdL_cons (wS_sim h1).2 <| rfl) rfl
  · cases h
end Go.Ab

namespace Go.Ab
open Go Go.Proofs
theorem impl_within_DD : DOk Tryz.prog (DD []) := DD_nil _
def impl_within (a0 : Int) (a1 : Int) (a2 : Int) : Bool :=
  (decide (a1 ≤ a0) && decide (a0 ≤ a2))
theorem impl_within_den (a0 : Int) (a1 : Int) (a2 : Int)  : Den Tryz.prog 68 [.int .i64 a0, .int .i64 a1, .int .i64 a2] (.bool (impl_within a0 a1 a2)) := by
  generalize hR : impl_within a0 a1 a2 = r
  unfold impl_within at hR
  refine den_intro G_ok Tryz.func68 (by kernel_rfl) rfl Tryz.ntmps68 (by rw [Tryz.results68]) (by simp) rfl ?_
  intro c hL hc hk
  clear hL
  simp only [pars, Nat.zero_add]
  refine AWP.seq ?_
  refine AWP.regS G_ok impl_within_DD hc (by kernel_rfl) (fun K hK => ?_); simp only [ea, gv, sv, reduceCtorEq, reduceIte, Nat.reduceBEq, Nat.reduceAdd, Nat.reduceEqDiff, Nat.reduceLT, Nat.reduceLeDiff, Nat.reduceMul, Nat.reduceSub, BEq.rfl, beq_self_eq_true, Int.reduceToNat]
  (refine hK _ ?_)
  clear hK K
  refine AWP.seq ?_
  refine AWP.regS G_ok impl_within_DD hc (by kernel_rfl) (fun K hK => ?_); simp only [ea, gv, sv, reduceCtorEq, reduceIte, Nat.reduceBEq, Nat.reduceAdd, Nat.reduceEqDiff, Nat.reduceLT, Nat.reduceLeDiff, Nat.reduceMul, Nat.reduceSub, BEq.rfl, beq_self_eq_true, Int.reduceToNat]
  (refine hK _ ?_)
  clear hK K
  refine AWP.ret ?_
  subst hR
  (simp only [en, si, ea, gv, sv, hk, reduceCtorEq, reduceIte, Nat.reduceBEq, Nat.reduceAdd, Nat.reduceEqDiff, Nat.reduceLT, Nat.reduceLeDiff, Nat.reduceMul, Nat.reduceSub, BEq.rfl, beq_self_eq_true, Int.reduceToNat]; done)
def D_impl_within : DF
  | [x0, x1, x2] => some (.bool (impl_within (rdI x0) (rdI x1) (rdI x2)), false, [wI .i64 x0, wI .i64 x1, wI .i64 x2])
  | _ => none
theorem D_impl_within_ok : OkD Tryz.prog 68 D_impl_within := by
  intro xs r z ob h ho
  unfold D_impl_within at h
  split at h
  · simp only [Option.some.injEq, Prod.mk.injEq] at h
    obtain ⟨rfl, rfl, rfl⟩ := h
    obtain ⟨h0, h1, h2, _⟩ := ho
    exact Den.sim (impl_within_den _ _ _ ) (simOL_cons (wI_sim h0).1 <| simOL_cons (wI_sim h1).1 <| simOL_cons (wI_sim h2).1 <| trivial) (noIdL_cons (wI_sim h0).2 <| noIdL_cons (wI_sim h1).2 <| noIdL_cons (wI_sim h2).2 <| rfl) rfl
  · cases h
end Go.Ab

namespace Go.Ab
open Go Go.Proofs
theorem impl_isDay_DD : DOk Tryz.prog (DD [(68, dP D_impl_within)]) := DD_cons D_impl_within_ok.e <| DD_nil _
def impl_isDay (a0 : Int) : Bool :=
  (impl_within a0 0 99999)
theorem impl_isDay_den (a0 : Int)  : Den Tryz.prog 42 [.int .i64 a0] (.bool (impl_isDay a0)) := by
  generalize hR : impl_isDay a0 = r
  unfold impl_isDay at hR
  refine den_intro G_ok Tryz.func42 (by kernel_rfl) rfl Tryz.ntmps42 (by rw [Tryz.results42]) (by simp) rfl ?_
  intro c hL hc hk
  clear hL
  simp only [pars, Nat.zero_add]
  refine AWP.seq ?_
  refine AWP.regS G_ok impl_isDay_DD hc (by kernel_rfl) (fun K hK => ?_); simp only [ea, gv, sv, D_impl_within, reduceCtorEq, reduceIte, Nat.reduceBEq, Nat.reduceAdd, Nat.reduceEqDiff, Nat.reduceLT, Nat.reduceLeDiff, Nat.reduceMul, Nat.reduceSub, BEq.rfl, beq_self_eq_true, Int.reduceToNat]
  (refine hK _ ?_)
  clear hK K
  refine AWP.seq ?_
  refine AWP.regS G_ok impl_isDay_DD hc (by kernel_rfl) (fun K hK => ?_); simp only [ea, gv, sv, D_impl_within, reduceCtorEq, reduceIte, Nat.reduceBEq, Nat.reduceAdd, Nat.reduceEqDiff, Nat.reduceLT, Nat.reduceLeDiff, Nat.reduceMul, Nat.reduceSub, BEq.rfl, beq_self_eq_true, Int.reduceToNat]
  (refine hK _ ?_)
  clear hK K
  refine AWP.ret ?_
  subst hR
  (simp only [en, si, ea, gv, sv, hk, reduceCtorEq, reduceIte, Nat.reduceBEq, Nat.reduceAdd, Nat.reduceEqDiff, Nat.reduceLT, Nat.reduceLeDiff, Nat.reduceMul, Nat.reduceSub, BEq.rfl, beq_self_eq_true, Int.reduceToNat]; done)
def D_impl_isDay : DF
  | [x0] => some (.bool (impl_isDay (rdI x0)), false, [wI .i64 x0])
  | _ => none
theorem D_impl_isDay_ok : OkD Tryz.prog 42 D_impl_isDay := by
  intro xs r z ob h ho
  unfold D_impl_isDay at h
  split at h
  · simp only [Option.some.injEq, Prod.mk.injEq] at h
    obtain ⟨rfl, rfl, rfl⟩ := h
    obtain ⟨h0, _⟩ := ho
    exact Den.sim (impl_isDay_den _ ) (simOL_cons (wI_sim h0).1 <| trivial) (noIdL_cons (wI_sim h0).2 <| rfl) rfl
  · cases h
end Go.Ab

namespace Go.Ab
open Go Go.Proofs
theorem impl_isEntry_DD : DOk Tryz.prog (DD [(42, dP D_impl_isDay), (67, dP D_impl_IsName), (68, dP D_impl_within)]) := DD_cons D_impl_isDay_ok.e <| DD_cons D_impl_IsName_ok.e <| DD_cons D_impl_within_ok.e <| DD_nil _
def impl_isEntry (a0 : Entry) : Bool :=
  ((((impl_isDay a0.Day) && (impl_IsName a0.Item)) && (impl_within a0.Amount (-1000) 1000)) && (a0.Amount != 0))
theorem impl_isEntry_den (a0 : Entry)  : Den Tryz.prog 31 [.agg (eEntry a0)] (.bool (impl_isEntry a0)) := by
  generalize hR : impl_isEntry a0 = r
  unfold impl_isEntry at hR
  refine den_intro G_ok Tryz.func31 (by kernel_rfl) rfl Tryz.ntmps31 (by rw [Tryz.results31]) (by simp) rfl ?_
  intro c hL hc hk
  obtain ⟨hL0, _⟩ := hL
  have hw0 : bwEntry a0 := Entry_lens a0 hL0
  clear hL0
  simp only [pars, Nat.zero_add]
  refine AWP.seq ?_
  refine AWP.regS G_ok impl_isEntry_DD hc (by kernel_rfl) (fun K hK => ?_); simp only [ea, gv, sv, D_impl_isDay, D_impl_IsName, D_impl_within, reduceCtorEq, reduceIte, Nat.reduceBEq, Nat.reduceAdd, Nat.reduceEqDiff, Nat.reduceLT, Nat.reduceLeDiff, Nat.reduceMul, Nat.reduceSub, BEq.rfl, beq_self_eq_true, Int.reduceToNat]
  (refine hK _ ?_)
  clear hK K
  refine AWP.seq ?_
  refine AWP.regS G_ok impl_isEntry_DD hc (by kernel_rfl) (fun K hK => ?_); simp only [ea, gv, sv, D_impl_isDay, D_impl_IsName, D_impl_within, reduceCtorEq, reduceIte, Nat.reduceBEq, Nat.reduceAdd, Nat.reduceEqDiff, Nat.reduceLT, Nat.reduceLeDiff, Nat.reduceMul, Nat.reduceSub, BEq.rfl, beq_self_eq_true, Int.reduceToNat]
  (refine hK _ ?_)
  clear hK K
  refine AWP.ret ?_
  subst hR
  (simp only [en, si, ea, gv, sv, hk, reduceCtorEq, reduceIte, Nat.reduceBEq, Nat.reduceAdd, Nat.reduceEqDiff, Nat.reduceLT, Nat.reduceLeDiff, Nat.reduceMul, Nat.reduceSub, BEq.rfl, beq_self_eq_true, Int.reduceToNat]; done)
def D_impl_isEntry : DF
  | [x0] => some (.bool (impl_isEntry (rdG dEntry x0)), false, [wG eEntry dEntry x0])
  | _ => none
theorem D_impl_isEntry_ok : OkD Tryz.prog 31 D_impl_isEntry := by
  intro xs r z ob h ho
  unfold D_impl_isEntry at h
  split at h
  · simp only [Option.some.injEq, Prod.mk.injEq] at h
    obtain ⟨rfl, rfl, rfl⟩ := h
    obtain ⟨h0, _⟩ := ho
    exact Den.sim (impl_isEntry_den _ ) (simOL_cons (wG_sim h0).1 <| trivial) (noIdL_cons (wG_sim h0).2 <| rfl) rfl
  · cases h
end Go.Ab

namespace Go.Ab
open Go Go.Proofs
theorem impl_isSpare_DD : DOk Tryz.prog (DD [(67, dP D_impl_IsName), (68, dP D_impl_within)]) := DD_cons D_impl_IsName_ok.e <| DD_cons D_impl_within_ok.e <| DD_nil _
def impl_isSpare (a0 : Spare) : Bool :=
  (((impl_IsName a0.Name) && (impl_within a0.Most 0 10000)) && (impl_within a0.Least 0 a0.Most))
theorem impl_isSpare_den (a0 : Spare)  : Den Tryz.prog 73 [.agg (eSpare a0)] (.bool (impl_isSpare a0)) := by
  generalize hR : impl_isSpare a0 = r
  unfold impl_isSpare at hR
  refine den_intro G_ok Tryz.func73 (by kernel_rfl) rfl Tryz.ntmps73 (by rw [Tryz.results73]) (by simp) rfl ?_
  intro c hL hc hk
  obtain ⟨hL0, _⟩ := hL
  have hw0 : bwSpare a0 := Spare_lens a0 hL0
  clear hL0
  simp only [pars, Nat.zero_add]
  refine AWP.seq ?_
  refine AWP.regS G_ok impl_isSpare_DD hc (by kernel_rfl) (fun K hK => ?_); simp only [ea, gv, sv, D_impl_IsName, D_impl_within, reduceCtorEq, reduceIte, Nat.reduceBEq, Nat.reduceAdd, Nat.reduceEqDiff, Nat.reduceLT, Nat.reduceLeDiff, Nat.reduceMul, Nat.reduceSub, BEq.rfl, beq_self_eq_true, Int.reduceToNat]
  (refine hK _ ?_)
  clear hK K
  refine AWP.seq ?_
  refine AWP.regS G_ok impl_isSpare_DD hc (by kernel_rfl) (fun K hK => ?_); simp only [ea, gv, sv, D_impl_IsName, D_impl_within, reduceCtorEq, reduceIte, Nat.reduceBEq, Nat.reduceAdd, Nat.reduceEqDiff, Nat.reduceLT, Nat.reduceLeDiff, Nat.reduceMul, Nat.reduceSub, BEq.rfl, beq_self_eq_true, Int.reduceToNat]
  (refine hK _ ?_)
  clear hK K
  refine AWP.ret ?_
  subst hR
  (simp only [en, si, ea, gv, sv, hk, reduceCtorEq, reduceIte, Nat.reduceBEq, Nat.reduceAdd, Nat.reduceEqDiff, Nat.reduceLT, Nat.reduceLeDiff, Nat.reduceMul, Nat.reduceSub, BEq.rfl, beq_self_eq_true, Int.reduceToNat]; done)
def D_impl_isSpare : DF
  | [x0] => some (.bool (impl_isSpare (rdG dSpare x0)), false, [wG eSpare dSpare x0])
  | _ => none
theorem D_impl_isSpare_ok : OkD Tryz.prog 73 D_impl_isSpare := by
  intro xs r z ob h ho
  unfold D_impl_isSpare at h
  split at h
  · simp only [Option.some.injEq, Prod.mk.injEq] at h
    obtain ⟨rfl, rfl, rfl⟩ := h
    obtain ⟨h0, _⟩ := ho
    exact Den.sim (impl_isSpare_den _ ) (simOL_cons (wG_sim h0).1 <| trivial) (noIdL_cons (wG_sim h0).2 <| rfl) rfl
  · cases h
end Go.Ab

namespace Go.Ab
open Go Go.Proofs
theorem impl_ValidStore_1_DD : DOk Tryz.prog (DD [(68, dP D_impl_within)]) := DD_cons D_impl_within_ok.e <| DD_nil _
def impl_ValidStore_1 (a0 : Int) (a1 : Spare) : Bool :=
  (!(impl_within a0 0 a1.Most))
theorem impl_ValidStore_1_den (a0 : Int) (a1 : Spare)  : Den Tryz.prog 75 [.int .i64 a0, .ep (eSpare a1)] (.bool (impl_ValidStore_1 a0 a1)) := by
  generalize hR : impl_ValidStore_1 a0 a1 = r
  unfold impl_ValidStore_1 at hR
  refine den_intro G_ok Tryz.func75 (by kernel_rfl) rfl Tryz.ntmps75 (by rw [Tryz.results75]) (by simp) rfl ?_
  intro c hL hc hk
  obtain ⟨hL0, hL1, _⟩ := hL
  have hw0 : bwSpare a1 := Spare_lens a1 hL1
  clear hL0 hL1
  simp only [pars, Nat.zero_add]
  refine AWP.seq ?_
  refine AWP.regS G_ok impl_ValidStore_1_DD hc (by kernel_rfl) (fun K hK => ?_); simp only [ea, gv, sv, D_impl_within, reduceCtorEq, reduceIte, Nat.reduceBEq, Nat.reduceAdd, Nat.reduceEqDiff, Nat.reduceLT, Nat.reduceLeDiff, Nat.reduceMul, Nat.reduceSub, BEq.rfl, beq_self_eq_true, Int.reduceToNat]
  (refine hK _ ?_)
  clear hK K
  refine AWP.seq ?_
  refine AWP.regS G_ok impl_ValidStore_1_DD hc (by kernel_rfl) (fun K hK => ?_); simp only [ea, gv, sv, D_impl_within, reduceCtorEq, reduceIte, Nat.reduceBEq, Nat.reduceAdd, Nat.reduceEqDiff, Nat.reduceLT, Nat.reduceLeDiff, Nat.reduceMul, Nat.reduceSub, BEq.rfl, beq_self_eq_true, Int.reduceToNat]
  (refine hK _ ?_)
  clear hK K
  refine AWP.ret ?_
  subst hR
  (simp only [en, si, ea, gv, sv, hk, reduceCtorEq, reduceIte, Nat.reduceBEq, Nat.reduceAdd, Nat.reduceEqDiff, Nat.reduceLT, Nat.reduceLeDiff, Nat.reduceMul, Nat.reduceSub, BEq.rfl, beq_self_eq_true, Int.reduceToNat]; done)
def D_impl_ValidStore_1 : DF
  | [x0, x1] => some (.bool (impl_ValidStore_1 (rdI x0) (rdP dSpare x1)), false, [wI .i64 x0, wP eSpare dSpare x1])
  | _ => none
theorem D_impl_ValidStore_1_ok : OkD Tryz.prog 75 D_impl_ValidStore_1 := by
  intro xs r z ob h ho
  unfold D_impl_ValidStore_1 at h
  split at h
  · simp only [Option.some.injEq, Prod.mk.injEq] at h
    obtain ⟨rfl, rfl, rfl⟩ := h
    obtain ⟨h0, h1, _⟩ := ho
    exact Den.sim (impl_ValidStore_1_den _ _ ) (simOL_cons (wI_sim h0).1 <| simOL_cons (wP_sim h1).1 <| trivial) (noIdL_cons (wI_sim h0).2 <| noIdL_cons (wP_sim h1).2 <| rfl) rfl
  · cases h
end Go.Ab

namespace Go.Ab
open Go Go.Proofs
theorem slices_IndexFunc_int64__impl_ValidStore_1_DD : DOk Tryz.prog (DD [(75, dP D_impl_ValidStore_1)]) := DD_cons D_impl_ValidStore_1_ok.e <| DD_nil _
def slices_IndexFunc_int64__impl_ValidStore_1_b1 (a0 : (List Int)) (a1 : Spare) (i1 : Nat) (s1 : Unit) : Except (Int) (Unit) :=
  (bif (impl_ValidStore_1 (a0.getD i1 default) a1) then .error (i1 : Int) else .ok ())
def slices_IndexFunc_int64__impl_ValidStore_1 (a0 : (List Int)) (a1 : Spare) : Int :=
  (match loopR (slices_IndexFunc_int64__impl_ValidStore_1_b1 a0 a1) (a0.length - 0) 0 () with | .error e => e | .ok s1 => (-1))
theorem slices_IndexFunc_int64__impl_ValidStore_1_den (a0 : (List Int)) (a1 : Spare)  : Den Tryz.prog 117 [encL 1 eIi64 a0, .fn 75 0 [.ep (eSpare a1)]] (.int .i64 (slices_IndexFunc_int64__impl_ValidStore_1 a0 a1)) := by
  generalize hR : slices_IndexFunc_int64__impl_ValidStore_1 a0 a1 = r
  unfold slices_IndexFunc_int64__impl_ValidStore_1 at hR
  refine den_intro G_ok Tryz.func117 (by kernel_rfl) rfl Tryz.ntmps117 (by rw [Tryz.results117]) (by simp) rfl ?_
  intro c hL hc hk
  obtain ⟨hL0, hL1, _⟩ := hL
  have hw0 : a0.length < 9223372036854775808 := Nat.lt_succ_of_le (lens_encL hL0).1
  have hw1 : bwSpare a1 := Spare_lens a1 hL1.1
  clear hL0 hL1
  simp only [pars, Nat.zero_add]
  refine AWP.seq ?_
  refine AWP.regS G_ok slices_IndexFunc_int64__impl_ValidStore_1_DD hc (by kernel_rfl) (fun K hK => ?_); simp only [ea, gv, sv, D_impl_ValidStore_1, reduceCtorEq, reduceIte, Nat.reduceBEq, Nat.reduceAdd, Nat.reduceEqDiff, Nat.reduceLT, Nat.reduceLeDiff, Nat.reduceMul, Nat.reduceSub, BEq.rfl, beq_self_eq_true, Int.reduceToNat]
  (refine hK _ ?_)
  clear hK K
  refine AWP.seq ?_
  refine AWP.seq ?_
  refine AWP.regS G_ok slices_IndexFunc_int64__impl_ValidStore_1_DD hc (by kernel_rfl) (fun K hK => ?_); simp only [ea, gv, sv, D_impl_ValidStore_1, reduceCtorEq, reduceIte, Nat.reduceBEq, Nat.reduceAdd, Nat.reduceEqDiff, Nat.reduceLT, Nat.reduceLeDiff, Nat.reduceMul, Nat.reduceSub, BEq.rfl, beq_self_eq_true, Int.reduceToNat]
  (refine hK _ ?_)
  clear hK K
  refine AWP.block ?_
  generalize hz1 : loopR (slices_IndexFunc_int64__impl_ValidStore_1_b1 a0 a1) (a0.length - 0) 0 () = z1 at hR
  refine AWP.range (slices_IndexFunc_int64__impl_ValidStore_1_b1 a0 a1) (fun i1 s1 => ⟨[(0, encL 1 eIi64 a0), (1, .fn 75 0 [.ep (eSpare a1)]), (7, .int .i64 (a0.length : Int)), (8, .int .i64 (i1 : Int))], []⟩) (fun i1 s1 => True) (a0.length) 0 () [] hz1 (by (omega)) (by (trivial)) (by (simp only [si, ea, gv, sv, hk, reduceCtorEq, reduceIte, Nat.reduceBEq, Nat.reduceAdd, Nat.reduceEqDiff, Nat.reduceLT, Nat.reduceLeDiff, Nat.reduceMul, Nat.reduceSub, BEq.rfl, beq_self_eq_true, Int.reduceToNat]; trivial)) ?_
  clear hz1
  intro i1 s1 hi1 hW1 hz1
  refine AWP.seq ?_
  refine AWP.regS G_ok slices_IndexFunc_int64__impl_ValidStore_1_DD hc (by kernel_rfl) (fun K hK => ?_); simp only [ea, gv, sv, D_impl_ValidStore_1, reduceCtorEq, reduceIte, Nat.reduceBEq, Nat.reduceAdd, Nat.reduceEqDiff, Nat.reduceLT, Nat.reduceLeDiff, Nat.reduceMul, Nat.reduceSub, BEq.rfl, beq_self_eq_true, Int.reduceToNat]
  (refine hK _ ?_)
  clear hK K
  refine AWP.seq ?_
  refine AWP.cond rfl (fun hb => ?_) (fun hb => ?_)
  · have hlt1 : i1 < a0.length := by ((simp only [ob, ln, bdv, sv] at *; omega))
    rw [loopR_lt hlt1] at hz1; simp only [slices_IndexFunc_int64__impl_ValidStore_1_b1] at hz1
    refine AWP.skip ?_
    refine AWP.seq ?_
    refine AWP.block ?_
    refine AWP.seq ?_
    refine AWP.regS G_ok slices_IndexFunc_int64__impl_ValidStore_1_DD hc (by kernel_rfl) (fun K hK => ?_); simp only [ea, gv, sv, D_impl_ValidStore_1, reduceCtorEq, reduceIte, Nat.reduceBEq, Nat.reduceAdd, Nat.reduceEqDiff, Nat.reduceLT, Nat.reduceLeDiff, Nat.reduceMul, Nat.reduceSub, BEq.rfl, beq_self_eq_true, Int.reduceToNat]
    (refine hK _ ?_)
    clear hK K
    refine AWP.seq ?_
    refine AWP.regS G_ok slices_IndexFunc_int64__impl_ValidStore_1_DD hc (by kernel_rfl) (fun K hK => ?_); simp only [ea, gv, sv, D_impl_ValidStore_1, reduceCtorEq, reduceIte, Nat.reduceBEq, Nat.reduceAdd, Nat.reduceEqDiff, Nat.reduceLT, Nat.reduceLeDiff, Nat.reduceMul, Nat.reduceSub, BEq.rfl, beq_self_eq_true, Int.reduceToNat]
    (refine ⟨by (omega), hK _ ?_⟩)
    clear hK K
    refine AWP.cond rfl (fun hb => ?_) (fun hb => ?_)
    · (simp only [hb, cond_true] at hz1)
      refine AWP.seq ?_
      refine AWP.regS G_ok slices_IndexFunc_int64__impl_ValidStore_1_DD hc (by kernel_rfl) (fun K hK => ?_); simp only [ea, gv, sv, D_impl_ValidStore_1, reduceCtorEq, reduceIte, Nat.reduceBEq, Nat.reduceAdd, Nat.reduceEqDiff, Nat.reduceLT, Nat.reduceLeDiff, Nat.reduceMul, Nat.reduceSub, BEq.rfl, beq_self_eq_true, Int.reduceToNat]
      (refine hK _ ?_)
      clear hK K
      refine AWP.ret ?_
      subst hz1
      dsimp only at hR
      subst hR
      (simp only [en, si, ea, gv, sv, hk, reduceCtorEq, reduceIte, Nat.reduceBEq, Nat.reduceAdd, Nat.reduceEqDiff, Nat.reduceLT, Nat.reduceLeDiff, Nat.reduceMul, Nat.reduceSub, BEq.rfl, beq_self_eq_true, Int.reduceToNat]; done)
    · (simp only [hb, cond_false] at hz1)
      refine AWP.skip ?_
      refine AWP.regS G_ok slices_IndexFunc_int64__impl_ValidStore_1_DD hc (by kernel_rfl) (fun K hK => ?_); simp only [ea, gv, sv, D_impl_ValidStore_1, reduceCtorEq, reduceIte, Nat.reduceBEq, Nat.reduceAdd, Nat.reduceEqDiff, Nat.reduceLT, Nat.reduceLeDiff, Nat.reduceMul, Nat.reduceSub, BEq.rfl, beq_self_eq_true, Int.reduceToNat]
      (refine hK _ ?_)
      clear hK K
      exact ⟨_, [], hlt1, by (trivial), hz1, by (simp only [si, ea, gv, sv, hk, reduceCtorEq, reduceIte, Nat.reduceBEq, Nat.reduceAdd, Nat.reduceEqDiff, Nat.reduceLT, Nat.reduceLeDiff, Nat.reduceMul, Nat.reduceSub, BEq.rfl, beq_self_eq_true, Int.reduceToNat]; (and_intros <;> first | trivial | (rw [IntKind.wrap_i64]; omega)))⟩
  · obtain rfl : i1 = a0.length := by ((simp only [ob, ln, bdv, sv] at *; omega))
    rw [loopR_ge (Nat.le_refl _)] at hz1; subst hz1; dsimp only at hR
    refine AWP.exit ?_; refine exitTo_here ?_
    refine AWP.seq ?_
    refine AWP.regS G_ok slices_IndexFunc_int64__impl_ValidStore_1_DD hc (by kernel_rfl) (fun K hK => ?_); simp only [ea, gv, sv, D_impl_ValidStore_1, reduceCtorEq, reduceIte, Nat.reduceBEq, Nat.reduceAdd, Nat.reduceEqDiff, Nat.reduceLT, Nat.reduceLeDiff, Nat.reduceMul, Nat.reduceSub, BEq.rfl, beq_self_eq_true, Int.reduceToNat]
    (refine hK _ ?_)
    clear hK K
    refine AWP.ret ?_
    subst hR
    (simp only [en, si, ea, gv, sv, hk, reduceCtorEq, reduceIte, Nat.reduceBEq, Nat.reduceAdd, Nat.reduceEqDiff, Nat.reduceLT, Nat.reduceLeDiff, Nat.reduceMul, Nat.reduceSub, BEq.rfl, beq_self_eq_true, Int.reduceToNat]; done)
def D_slices_IndexFunc_int64__impl_ValidStore_1 : DF
  | [x0, (.fn f75_2 kf75_2 [y1])] => some (.int .i64 (slices_IndexFunc_int64__impl_ValidStore_1 (rdL dIi64 x0) (rdP dSpare y1)), false, [wL 1 eIi64 dIi64 x0, y1 = .ep (eSpare (rdP dSpare y1)), f75_2 = 75, kf75_2 = 0])
  | _ => none
theorem D_slices_IndexFunc_int64__impl_ValidStore_1_ok : OkD Tryz.prog 117 D_slices_IndexFunc_int64__impl_ValidStore_1 := by
  intro xs r z ob h ho
  unfold D_slices_IndexFunc_int64__impl_ValidStore_1 at h
  split at h
  · simp only [Option.some.injEq, Prod.mk.injEq] at h
    obtain ⟨rfl, rfl, rfl⟩ := h
    obtain ⟨h0, qy1, qf75_2, qkf75_2, _⟩ := ho
    exact Den.sim (slices_IndexFunc_int64__impl_ValidStore_1_den _ _ ) (simOL_cons (wL_sim h0).1 <| simOL_cons (by subst qf75_2 qkf75_2; rw [← qy1]; exact simO_refl _) <| trivial) (noIdL_cons (wL_sim h0).2 <| noIdL_cons (by rw [qy1]; rfl) <| rfl) rfl
  · cases h
end Go.Ab

namespace Go.Ab
open Go Go.Proofs
theorem slices_ContainsFunc_int64__impl_ValidStore_1_DD : DOk Tryz.prog (DD [(117, dP D_slices_IndexFunc_int64__impl_ValidStore_1)]) := DD_cons D_slices_IndexFunc_int64__impl_ValidStore_1_ok.e <| DD_nil _
def slices_ContainsFunc_int64__impl_ValidStore_1 (a0 : (List Int)) (a1 : Spare) : Bool :=
  decide (0 ≤ (slices_IndexFunc_int64__impl_ValidStore_1 a0 a1))
theorem slices_ContainsFunc_int64__impl_ValidStore_1_den (a0 : (List Int)) (a1 : Spare)  : Den Tryz.prog 74 [encL 1 eIi64 a0, .fn 75 0 [.ep (eSpare a1)]] (.bool (slices_ContainsFunc_int64__impl_ValidStore_1 a0 a1)) := by
  generalize hR : slices_ContainsFunc_int64__impl_ValidStore_1 a0 a1 = r
  unfold slices_ContainsFunc_int64__impl_ValidStore_1 at hR
  refine den_intro G_ok Tryz.func74 (by kernel_rfl) rfl Tryz.ntmps74 (by rw [Tryz.results74]) (by simp) rfl ?_
  intro c hL hc hk
  obtain ⟨hL0, hL1, _⟩ := hL
  have hw0 : a0.length < 9223372036854775808 := Nat.lt_succ_of_le (lens_encL hL0).1
  have hw1 : bwSpare a1 := Spare_lens a1 hL1.1
  clear hL0 hL1
  simp only [pars, Nat.zero_add]
  refine AWP.seq ?_
  refine AWP.regS G_ok slices_ContainsFunc_int64__impl_ValidStore_1_DD hc (by kernel_rfl) (fun K hK => ?_); simp only [ea, gv, sv, D_slices_IndexFunc_int64__impl_ValidStore_1, reduceCtorEq, reduceIte, Nat.reduceBEq, Nat.reduceAdd, Nat.reduceEqDiff, Nat.reduceLT, Nat.reduceLeDiff, Nat.reduceMul, Nat.reduceSub, BEq.rfl, beq_self_eq_true, Int.reduceToNat]
  (refine hK _ ?_)
  clear hK K
  refine AWP.seq ?_
  refine AWP.regS G_ok slices_ContainsFunc_int64__impl_ValidStore_1_DD hc (by kernel_rfl) (fun K hK => ?_); simp only [ea, gv, sv, D_slices_IndexFunc_int64__impl_ValidStore_1, reduceCtorEq, reduceIte, Nat.reduceBEq, Nat.reduceAdd, Nat.reduceEqDiff, Nat.reduceLT, Nat.reduceLeDiff, Nat.reduceMul, Nat.reduceSub, BEq.rfl, beq_self_eq_true, Int.reduceToNat]
  (refine hK _ ?_)
  clear hK K
  refine AWP.ret ?_
  subst hR
  (simp only [en, si, ea, gv, sv, hk, reduceCtorEq, reduceIte, Nat.reduceBEq, Nat.reduceAdd, Nat.reduceEqDiff, Nat.reduceLT, Nat.reduceLeDiff, Nat.reduceMul, Nat.reduceSub, BEq.rfl, beq_self_eq_true, Int.reduceToNat]; done)
def D_slices_ContainsFunc_int64__impl_ValidStore_1 : DF
  | [x0, (.fn f75_2 kf75_2 [y1])] => some (.bool (slices_ContainsFunc_int64__impl_ValidStore_1 (rdL dIi64 x0) (rdP dSpare y1)), false, [wL 1 eIi64 dIi64 x0, y1 = .ep (eSpare (rdP dSpare y1)), f75_2 = 75, kf75_2 = 0])
  | _ => none
theorem D_slices_ContainsFunc_int64__impl_ValidStore_1_ok : OkD Tryz.prog 74 D_slices_ContainsFunc_int64__impl_ValidStore_1 := by
  intro xs r z ob h ho
  unfold D_slices_ContainsFunc_int64__impl_ValidStore_1 at h
  split at h
  · simp only [Option.some.injEq, Prod.mk.injEq] at h
    obtain ⟨rfl, rfl, rfl⟩ := h
    obtain ⟨h0, qy1, qf75_2, qkf75_2, _⟩ := ho
    exact Den.sim (slices_ContainsFunc_int64__impl_ValidStore_1_den _ _ ) (simOL_cons (wL_sim h0).1 <| simOL_cons (by subst qf75_2 qkf75_2; rw [← qy1]; exact simO_refl _) <| trivial) (noIdL_cons (wL_sim h0).2 <| noIdL_cons (by rw [qy1]; rfl) <| rfl) rfl
  · cases h
end Go.Ab

namespace Go.Ab
open Go Go.Proofs
end Go.Ab

namespace Go.Ab
open Go Go.Proofs
theorem impl_ValidStore_DD : DOk Tryz.prog (DD [(31, dP D_impl_isEntry), (72, dP D_impl_Store_sums), (73, dP D_impl_isSpare), (74, dP D_slices_ContainsFunc_int64__impl_ValidStore_1), (76, dP D_impl_Store_spareOf), (77, dP D_impl_few)]) := DD_cons D_impl_isEntry_ok.e <| DD_cons D_impl_Store_sums_ok.e <| DD_cons D_impl_isSpare_ok.e <| DD_cons D_slices_ContainsFunc_int64__impl_ValidStore_1_ok.e <| DD_cons D_impl_Store_spareOf_ok.e <| DD_cons D_impl_few_ok.e <| DD_nil _
def impl_ValidStore_b1 (a0 : Store) (i1 : Nat) (s1 : Unit) : Except (Bool) (Unit) :=
  (bif (((!(impl_isSpare (a0.Spares.getD i1 default))) || (decide (0 < (i1 : Int)) && !(Op.bytesLess ((a0.Spares.getD ((IntKind.wrap .i64 ((i1 : Int) - 1)).toNat) default).Name) ((a0.Spares.getD i1 default).Name)))) || (slices_ContainsFunc_int64__impl_ValidStore_1 ((impl_Store_sums a0 ((a0.Spares.getD i1 default).Name)).2) (a0.Spares.getD i1 default))) then .error false else .ok ())
def impl_ValidStore_b2 (a0 : Store) (s1 : Unit) (i2 : Nat) (s2 : Unit) : Except (Bool) (Unit) :=
  (bif (((!(impl_isEntry (a0.Entries.getD i2 default))) || (!((impl_Store_spareOf a0 ((a0.Entries.getD i2 default).Item)).2))) || (decide (0 < (i2 : Int)) && decide (((a0.Entries.getD i2 default).Day) < ((a0.Entries.getD ((IntKind.wrap .i64 ((i2 : Int) - 1)).toNat) default).Day)))) then .error false else .ok ())
def impl_ValidStore (a0 : Store) : Bool :=
  (match loopR (impl_ValidStore_b1 a0) (a0.Spares.length - 0) 0 () with | .error e => e | .ok s1 => (match loopR (impl_ValidStore_b2 a0 s1) (a0.Entries.length - 0) 0 () with | .error e => e | .ok s2 => ((impl_few (a0.Spares.length : Int) 16) && (impl_few (a0.Entries.length : Int) 48))))
theorem impl_ValidStore_den (a0 : Store) (hb0 : bdStore a0) : Den Tryz.prog 34 [.agg (eStore a0)] (.bool (impl_ValidStore a0)) := by
  generalize hR : impl_ValidStore a0 = r
  unfold impl_ValidStore at hR
  refine den_intro G_ok Tryz.func34 (by kernel_rfl) rfl Tryz.ntmps34 (by rw [Tryz.results34]) (by simp) rfl ?_
  intro c hL hc hk
  obtain ⟨hL0, _⟩ := hL
  have hw0 : bwStore a0 := Store_lens a0 hL0
  clear hL0
  simp only [pars, Nat.zero_add]
  refine AWP.seq ?_
  refine AWP.regS G_ok impl_ValidStore_DD hc (by kernel_rfl) (fun K hK => ?_); simp only [ea, gv, sv, D_impl_isEntry, D_impl_Store_sums, D_impl_isSpare, D_slices_ContainsFunc_int64__impl_ValidStore_1, D_impl_Store_spareOf, D_impl_few, reduceCtorEq, reduceIte, Nat.reduceBEq, Nat.reduceAdd, Nat.reduceEqDiff, Nat.reduceLT, Nat.reduceLeDiff, Nat.reduceMul, Nat.reduceSub, BEq.rfl, beq_self_eq_true, Int.reduceToNat]
  (refine hK _ ?_)
  clear hK K
  refine AWP.seq ?_
  refine AWP.seq ?_
  refine AWP.regS G_ok impl_ValidStore_DD hc (by kernel_rfl) (fun K hK => ?_); simp only [ea, gv, sv, D_impl_isEntry, D_impl_Store_sums, D_impl_isSpare, D_slices_ContainsFunc_int64__impl_ValidStore_1, D_impl_Store_spareOf, D_impl_few, reduceCtorEq, reduceIte, Nat.reduceBEq, Nat.reduceAdd, Nat.reduceEqDiff, Nat.reduceLT, Nat.reduceLeDiff, Nat.reduceMul, Nat.reduceSub, BEq.rfl, beq_self_eq_true, Int.reduceToNat]
  (refine hK _ ?_)
  clear hK K
  refine AWP.block ?_
  refine AWP.lensS 12 rfl (fun hLn1 => ?_)
  generalize hz1 : loopR (impl_ValidStore_b1 a0) (a0.Spares.length - 0) 0 () = z1 at hR
  refine AWP.range (impl_ValidStore_b1 a0) (fun i1 s1 => ⟨[(1, .ptr 0 0), (12, encL 3 eSpare a0.Spares), (13, .int .i64 (a0.Spares.length : Int)), (14, .int .i64 (i1 : Int))], [.box [encL 3 eSpare a0.Spares, encL 3 eEntry a0.Entries]]⟩) (fun i1 s1 => True) (a0.Spares.length) 0 () [0] hz1 (by (omega)) (by (trivial)) (by (simp only [si, ea, gv, sv, hk, reduceCtorEq, reduceIte, Nat.reduceBEq, Nat.reduceAdd, Nat.reduceEqDiff, Nat.reduceLT, Nat.reduceLeDiff, Nat.reduceMul, Nat.reduceSub, BEq.rfl, beq_self_eq_true, Int.reduceToNat]; trivial)) ?_
  clear hz1
  intro i1 s1 hi1 hW1 hz1
  refine AWP.seq ?_
  refine AWP.regS G_ok impl_ValidStore_DD hc (by kernel_rfl) (fun K hK => ?_); simp only [ea, gv, sv, D_impl_isEntry, D_impl_Store_sums, D_impl_isSpare, D_slices_ContainsFunc_int64__impl_ValidStore_1, D_impl_Store_spareOf, D_impl_few, reduceCtorEq, reduceIte, Nat.reduceBEq, Nat.reduceAdd, Nat.reduceEqDiff, Nat.reduceLT, Nat.reduceLeDiff, Nat.reduceMul, Nat.reduceSub, BEq.rfl, beq_self_eq_true, Int.reduceToNat]
  (refine hK _ ?_)
  clear hK K
  refine AWP.seq ?_
  refine AWP.cond rfl (fun hb => ?_) (fun hb => ?_)
  · have hlt1 : i1 < a0.Spares.length := by ((simp only [ob, ln, bdv, sv] at *; omega))
    rw [loopR_lt hlt1] at hz1; simp only [impl_ValidStore_b1] at hz1
    refine AWP.skip ?_
    refine AWP.seq ?_
    refine AWP.block ?_
    refine AWP.seq ?_
    refine AWP.regS G_ok impl_ValidStore_DD hc (by kernel_rfl) (fun K hK => ?_); simp only [ea, gv, sv, D_impl_isEntry, D_impl_Store_sums, D_impl_isSpare, D_slices_ContainsFunc_int64__impl_ValidStore_1, D_impl_Store_spareOf, D_impl_few, reduceCtorEq, reduceIte, Nat.reduceBEq, Nat.reduceAdd, Nat.reduceEqDiff, Nat.reduceLT, Nat.reduceLeDiff, Nat.reduceMul, Nat.reduceSub, BEq.rfl, beq_self_eq_true, Int.reduceToNat]
    (refine ⟨by (omega), hK _ ?_⟩)
    clear hK K
    refine AWP.seq ?_
    refine AWP.regS G_ok impl_ValidStore_DD hc (by kernel_rfl) (fun K hK => ?_); simp only [ea, gv, sv, D_impl_isEntry, D_impl_Store_sums, D_impl_isSpare, D_slices_ContainsFunc_int64__impl_ValidStore_1, D_impl_Store_spareOf, D_impl_few, reduceCtorEq, reduceIte, Nat.reduceBEq, Nat.reduceAdd, Nat.reduceEqDiff, Nat.reduceLT, Nat.reduceLeDiff, Nat.reduceMul, Nat.reduceSub, BEq.rfl, beq_self_eq_true, Int.reduceToNat]
    (refine ⟨by (((try clear hK K); (repeat' first | apply And.intro | intro _) <;> (simp only [ob, ln, bdv, sv] at *; first | omega | (simp_all; done)))), hK _ ?_⟩)
    clear hK K
    refine AWP.seq ?_
    refine AWP.regD mixed G_ok impl_ValidStore_DD hc 24 (by kernel_rfl) (by kernel_rfl) (fun K hK => ?_); simp only [ea, gv, sv, D_impl_isEntry, D_impl_Store_sums, D_impl_isSpare, D_slices_ContainsFunc_int64__impl_ValidStore_1, D_impl_Store_spareOf, D_impl_few, reduceCtorEq, reduceIte, Nat.reduceBEq, Nat.reduceAdd, Nat.reduceEqDiff, Nat.reduceLT, Nat.reduceLeDiff, Nat.reduceMul, Nat.reduceSub, BEq.rfl, beq_self_eq_true, Int.reduceToNat]
    (refine ⟨by (((try clear hK K); (repeat' first | apply And.intro | intro _) <;> first | omega | (simp only [ob, ln, bdv, sv] at *; omega))), hK _ ?_⟩)
    clear hK K
    refine AWP.cond rfl (fun hb => ?_) (fun hb => ?_)
    · (simp only [hb, cond_true] at hz1)
      refine AWP.seq ?_
      refine AWP.regS G_ok impl_ValidStore_DD hc (by kernel_rfl) (fun K hK => ?_); simp only [ea, gv, sv, D_impl_isEntry, D_impl_Store_sums, D_impl_isSpare, D_slices_ContainsFunc_int64__impl_ValidStore_1, D_impl_Store_spareOf, D_impl_few, reduceCtorEq, reduceIte, Nat.reduceBEq, Nat.reduceAdd, Nat.reduceEqDiff, Nat.reduceLT, Nat.reduceLeDiff, Nat.reduceMul, Nat.reduceSub, BEq.rfl, beq_self_eq_true, Int.reduceToNat]
      (refine hK _ ?_)
      clear hK K
      refine AWP.ret ?_
      subst hz1
      dsimp only at hR
      subst hR
      (simp only [en, si, ea, gv, sv, hk, reduceCtorEq, reduceIte, Nat.reduceBEq, Nat.reduceAdd, Nat.reduceEqDiff, Nat.reduceLT, Nat.reduceLeDiff, Nat.reduceMul, Nat.reduceSub, BEq.rfl, beq_self_eq_true, Int.reduceToNat]; done)
    · (simp only [hb, cond_false] at hz1)
      refine AWP.skip ?_
      refine AWP.regS G_ok impl_ValidStore_DD hc (by kernel_rfl) (fun K hK => ?_); simp only [ea, gv, sv, D_impl_isEntry, D_impl_Store_sums, D_impl_isSpare, D_slices_ContainsFunc_int64__impl_ValidStore_1, D_impl_Store_spareOf, D_impl_few, reduceCtorEq, reduceIte, Nat.reduceBEq, Nat.reduceAdd, Nat.reduceEqDiff, Nat.reduceLT, Nat.reduceLeDiff, Nat.reduceMul, Nat.reduceSub, BEq.rfl, beq_self_eq_true, Int.reduceToNat]
      (refine hK _ ?_)
      clear hK K
      exact ⟨_, [0], hlt1, by (trivial), hz1, by (simp only [si, ea, gv, sv, hk, reduceCtorEq, reduceIte, Nat.reduceBEq, Nat.reduceAdd, Nat.reduceEqDiff, Nat.reduceLT, Nat.reduceLeDiff, Nat.reduceMul, Nat.reduceSub, BEq.rfl, beq_self_eq_true, Int.reduceToNat]; (and_intros <;> first | trivial | (rw [IntKind.wrap_i64]; omega)))⟩
  · obtain rfl : i1 = a0.Spares.length := by ((simp only [ob, ln, bdv, sv] at *; omega))
    rw [loopR_ge (Nat.le_refl _)] at hz1; subst hz1; dsimp only at hR
    refine AWP.exit ?_; refine exitTo_here ?_
    refine AWP.seq ?_
    refine AWP.seq ?_
    refine AWP.regS G_ok impl_ValidStore_DD hc (by kernel_rfl) (fun K hK => ?_); simp only [ea, gv, sv, D_impl_isEntry, D_impl_Store_sums, D_impl_isSpare, D_slices_ContainsFunc_int64__impl_ValidStore_1, D_impl_Store_spareOf, D_impl_few, reduceCtorEq, reduceIte, Nat.reduceBEq, Nat.reduceAdd, Nat.reduceEqDiff, Nat.reduceLT, Nat.reduceLeDiff, Nat.reduceMul, Nat.reduceSub, BEq.rfl, beq_self_eq_true, Int.reduceToNat]
    (refine hK _ ?_)
    clear hK K
    refine AWP.block ?_
    refine AWP.lensS 52 rfl (fun hLn2 => ?_)
    generalize hz2 : loopR (impl_ValidStore_b2 a0 s1) (a0.Entries.length - 0) 0 () = z2 at hR
    refine AWP.range (impl_ValidStore_b2 a0 s1) (fun i2 s2 => ⟨[(1, .ptr 0 0), (52, encL 3 eEntry a0.Entries), (53, .int .i64 (a0.Entries.length : Int)), (54, .int .i64 (i2 : Int))], [.box [encL 3 eSpare a0.Spares, encL 3 eEntry a0.Entries]]⟩) (fun i2 s2 => True) (a0.Entries.length) 0 () [0] hz2 (by (omega)) (by (trivial)) (by (simp only [si, ea, gv, sv, hk, reduceCtorEq, reduceIte, Nat.reduceBEq, Nat.reduceAdd, Nat.reduceEqDiff, Nat.reduceLT, Nat.reduceLeDiff, Nat.reduceMul, Nat.reduceSub, BEq.rfl, beq_self_eq_true, Int.reduceToNat]; trivial)) ?_
    clear hz2
    intro i2 s2 hi2 hW2 hz2
    refine AWP.seq ?_
    refine AWP.regS G_ok impl_ValidStore_DD hc (by kernel_rfl) (fun K hK => ?_); simp only [ea, gv, sv, D_impl_isEntry, D_impl_Store_sums, D_impl_isSpare, D_slices_ContainsFunc_int64__impl_ValidStore_1, D_impl_Store_spareOf, D_impl_few, reduceCtorEq, reduceIte, Nat.reduceBEq, Nat.reduceAdd, Nat.reduceEqDiff, Nat.reduceLT, Nat.reduceLeDiff, Nat.reduceMul, Nat.reduceSub, BEq.rfl, beq_self_eq_true, Int.reduceToNat]
    (refine hK _ ?_)
    clear hK K
    refine AWP.seq ?_
    refine AWP.cond rfl (fun hb => ?_) (fun hb => ?_)
    · have hlt2 : i2 < a0.Entries.length := by ((simp only [ob, ln, bdv, sv] at *; omega))
      rw [loopR_lt hlt2] at hz2; simp only [impl_ValidStore_b2] at hz2
      refine AWP.skip ?_
      refine AWP.seq ?_
      refine AWP.block ?_
      refine AWP.seq ?_
      refine AWP.regS G_ok impl_ValidStore_DD hc (by kernel_rfl) (fun K hK => ?_); simp only [ea, gv, sv, D_impl_isEntry, D_impl_Store_sums, D_impl_isSpare, D_slices_ContainsFunc_int64__impl_ValidStore_1, D_impl_Store_spareOf, D_impl_few, reduceCtorEq, reduceIte, Nat.reduceBEq, Nat.reduceAdd, Nat.reduceEqDiff, Nat.reduceLT, Nat.reduceLeDiff, Nat.reduceMul, Nat.reduceSub, BEq.rfl, beq_self_eq_true, Int.reduceToNat]
      (refine ⟨by (omega), hK _ ?_⟩)
      clear hK K
      refine AWP.seq ?_
      refine AWP.regS G_ok impl_ValidStore_DD hc (by kernel_rfl) (fun K hK => ?_); simp only [ea, gv, sv, D_impl_isEntry, D_impl_Store_sums, D_impl_isSpare, D_slices_ContainsFunc_int64__impl_ValidStore_1, D_impl_Store_spareOf, D_impl_few, reduceCtorEq, reduceIte, Nat.reduceBEq, Nat.reduceAdd, Nat.reduceEqDiff, Nat.reduceLT, Nat.reduceLeDiff, Nat.reduceMul, Nat.reduceSub, BEq.rfl, beq_self_eq_true, Int.reduceToNat]
      (refine hK _ ?_)
      clear hK K
      refine AWP.seq ?_
      refine AWP.regD mixed G_ok impl_ValidStore_DD hc 23 (by kernel_rfl) (by kernel_rfl) (fun K hK => ?_); simp only [ea, gv, sv, D_impl_isEntry, D_impl_Store_sums, D_impl_isSpare, D_slices_ContainsFunc_int64__impl_ValidStore_1, D_impl_Store_spareOf, D_impl_few, reduceCtorEq, reduceIte, Nat.reduceBEq, Nat.reduceAdd, Nat.reduceEqDiff, Nat.reduceLT, Nat.reduceLeDiff, Nat.reduceMul, Nat.reduceSub, BEq.rfl, beq_self_eq_true, Int.reduceToNat]
      (refine ⟨by ((simp only [ob, ln, bdv, sv] at *; omega)), hK _ ?_⟩)
      clear hK K
      refine AWP.cond rfl (fun hb => ?_) (fun hb => ?_)
      · (simp only [hb, cond_true] at hz2)
        refine AWP.seq ?_
        refine AWP.regS G_ok impl_ValidStore_DD hc (by kernel_rfl) (fun K hK => ?_); simp only [ea, gv, sv, D_impl_isEntry, D_impl_Store_sums, D_impl_isSpare, D_slices_ContainsFunc_int64__impl_ValidStore_1, D_impl_Store_spareOf, D_impl_few, reduceCtorEq, reduceIte, Nat.reduceBEq, Nat.reduceAdd, Nat.reduceEqDiff, Nat.reduceLT, Nat.reduceLeDiff, Nat.reduceMul, Nat.reduceSub, BEq.rfl, beq_self_eq_true, Int.reduceToNat]
        (refine hK _ ?_)
        clear hK K
        refine AWP.ret ?_
        subst hz2
        dsimp only at hR
        subst hR
        (simp only [en, si, ea, gv, sv, hk, reduceCtorEq, reduceIte, Nat.reduceBEq, Nat.reduceAdd, Nat.reduceEqDiff, Nat.reduceLT, Nat.reduceLeDiff, Nat.reduceMul, Nat.reduceSub, BEq.rfl, beq_self_eq_true, Int.reduceToNat]; done)
      · (simp only [hb, cond_false] at hz2)
        refine AWP.skip ?_
        refine AWP.regS G_ok impl_ValidStore_DD hc (by kernel_rfl) (fun K hK => ?_); simp only [ea, gv, sv, D_impl_isEntry, D_impl_Store_sums, D_impl_isSpare, D_slices_ContainsFunc_int64__impl_ValidStore_1, D_impl_Store_spareOf, D_impl_few, reduceCtorEq, reduceIte, Nat.reduceBEq, Nat.reduceAdd, Nat.reduceEqDiff, Nat.reduceLT, Nat.reduceLeDiff, Nat.reduceMul, Nat.reduceSub, BEq.rfl, beq_self_eq_true, Int.reduceToNat]
        (refine hK _ ?_)
        clear hK K
        exact ⟨_, [0], hlt2, by (trivial), hz2, by (simp only [si, ea, gv, sv, hk, reduceCtorEq, reduceIte, Nat.reduceBEq, Nat.reduceAdd, Nat.reduceEqDiff, Nat.reduceLT, Nat.reduceLeDiff, Nat.reduceMul, Nat.reduceSub, BEq.rfl, beq_self_eq_true, Int.reduceToNat]; (and_intros <;> first | trivial | (rw [IntKind.wrap_i64]; omega)))⟩
    · obtain rfl : i2 = a0.Entries.length := by ((simp only [ob, ln, bdv, sv] at *; omega))
      rw [loopR_ge (Nat.le_refl _)] at hz2; subst hz2; dsimp only at hR
      refine AWP.exit ?_; refine exitTo_here ?_
      refine AWP.seq ?_
      refine AWP.regS G_ok impl_ValidStore_DD hc (by kernel_rfl) (fun K hK => ?_); simp only [ea, gv, sv, D_impl_isEntry, D_impl_Store_sums, D_impl_isSpare, D_slices_ContainsFunc_int64__impl_ValidStore_1, D_impl_Store_spareOf, D_impl_few, reduceCtorEq, reduceIte, Nat.reduceBEq, Nat.reduceAdd, Nat.reduceEqDiff, Nat.reduceLT, Nat.reduceLeDiff, Nat.reduceMul, Nat.reduceSub, BEq.rfl, beq_self_eq_true, Int.reduceToNat]
      (refine hK _ ?_)
      clear hK K
      refine AWP.ret ?_
      subst hR
      (simp only [en, si, ea, gv, sv, hk, reduceCtorEq, reduceIte, Nat.reduceBEq, Nat.reduceAdd, Nat.reduceEqDiff, Nat.reduceLT, Nat.reduceLeDiff, Nat.reduceMul, Nat.reduceSub, BEq.rfl, beq_self_eq_true, Int.reduceToNat]; done)
def D_impl_ValidStore : DF
  | [x0] => some (.bool (impl_ValidStore (rdG dStore x0)), false, [wG eStore dStore x0, bdStore (rdG dStore x0)])
  | _ => none
theorem D_impl_ValidStore_ok : OkD Tryz.prog 34 D_impl_ValidStore := by
  intro xs r z ob h ho
  unfold D_impl_ValidStore at h
  split at h
  · simp only [Option.some.injEq, Prod.mk.injEq] at h
    obtain ⟨rfl, rfl, rfl⟩ := h
    obtain ⟨h0, hb0, _⟩ := ho
    exact Den.sim (impl_ValidStore_den _ hb0) (simOL_cons (wG_sim h0).1 <| trivial) (noIdL_cons (wG_sim h0).2 <| rfl) rfl
  · cases h
end Go.Ab

namespace Go.Ab
open Go Go.Proofs
theorem isSmall (x : UInt8) : spec_l01Small (x.toNat : Int) = (decide (97 ≤ (x.toNat : Int)) && decide ((x.toNat : Int) ≤ 122)) := by
  unfold spec_l01Small; rfl
theorem isDig (x : UInt8) : spec_l01Digit (x.toNat : Int) = impl_isDigit (x.toNat : Int) := by
  unfold spec_l01Digit impl_isDigit; rfl
theorem isName_eq (a : List UInt8) : impl_IsName a = spec_l01Name a := by
  unfold impl_IsName spec_l01Name
  have h1 := loopR_all (b := impl_IsName_b1 a) (fun i => ((!(decide (97 ≤ ((a.getD i 0).toNat : Int)) && decide (((a.getD i 0).toNat : Int) ≤ 122))) && (((i : Int) == 0) || (!(impl_isDigit ((a.getD i 0).toNat : Int)))))) false a.length (fun j u _ => rfl)
  have h2 := loopR_all (b := spec_l01Name_b1 a) (fun i => ((!(spec_l01Small ((a.getD i 0).toNat : Int))) && (!(spec_l01Digit ((a.getD i 0).toNat : Int))))) false a.length (fun j u _ => rfl)
  simp only [isSmall, isDig] at h2 ⊢
  cases a with
  | nil => simp [loopR]
  | cons x t =>
    rcases h1 with ⟨g1, e1⟩ | ⟨⟨q, hq, g1⟩, e1⟩
    · rw [e1]
      have h0 := g1 0 (by simp)
      have : ∀ q, q < (x :: t).length → ((!(decide (97 ≤ (((x :: t).getD q 0).toNat : Int)) && decide ((((x :: t).getD q 0).toNat : Int) ≤ 122))) && (!(impl_isDigit (((x :: t).getD q 0).toNat : Int)))) = false := fun q hq => by
        have := g1 q hq
        revert this
        cases decide (97 ≤ (((x :: t).getD q 0).toNat : Int)) <;> cases decide ((((x :: t).getD q 0).toNat : Int) ≤ 122) <;> cases impl_isDigit (((x :: t).getD q 0).toNat : Int) <;> simp
      rcases h2 with ⟨g2, e2⟩ | ⟨⟨q, hq, g2⟩, e2⟩
      · rw [e2]
        simp only [impl_few]
        have h0' : (decide (97 ≤ (((x :: t).getD 0 0).toNat : Int)) && decide ((((x :: t).getD 0 0).toNat : Int) ≤ 122)) = true := by
          revert h0
          cases decide (97 ≤ (((x :: t).getD 0 0).toNat : Int)) <;> cases decide ((((x :: t).getD 0 0).toNat : Int) ≤ 122) <;> simp
        rw [h0']
        rw [show ((x :: t) != []) = true from rfl, show ((x :: t) == []) = false from rfl, Bool.true_and, Bool.false_or]
        by_cases hl : 10 < ((x :: t).length : Int)
        · rw [decide_eq_false (show ¬ ((x :: t).length : Int) ≤ 10 by omega), decide_eq_true hl]; rfl
        · rw [decide_eq_true (show ((x :: t).length : Int) ≤ 10 by omega), decide_eq_false hl]; rfl
      · rw [this q hq] at g2; cases g2
    · rw [e1]
      cases hc : (((x :: t) == [] || decide (10 < ((x :: t).length : Int))) || !(decide (97 ≤ (((x :: t).getD 0 0).toNat : Int)) && decide ((((x :: t).getD 0 0).toNat : Int) ≤ 122))) with
      | true => rfl
      | false =>
        rw [cond_false]
        have hc2 : (decide (97 ≤ (((x :: t).getD 0 0).toNat : Int)) && decide ((((x :: t).getD 0 0).toNat : Int) ≤ 122)) = true := by
          revert hc
          cases (decide (97 ≤ (((x :: t).getD 0 0).toNat : Int)) && decide ((((x :: t).getD 0 0).toNat : Int) ≤ 122)) <;> simp
        have hq0 : q ≠ 0 := by
          intro h
          subst h
          rw [hc2] at g1
          simp at g1
        rcases h2 with ⟨g2, e2⟩ | ⟨⟨q', hq', g2⟩, e2⟩
        · have := g2 q hq
          have hz : ((q : Int) == 0) = false := by simp; omega
          rw [hz, Bool.false_or] at g1
          rw [g1] at this
          cases this
        · rw [e2]
theorem isSpare_eq (x : Spare) : impl_isSpare x = spec_l29Item x := by
  unfold impl_isSpare spec_l29Item
  rw [isName_eq]; rfl
theorem isEntry_eq (x : Entry) : impl_isEntry x = spec_l29Entry x := by
  unfold impl_isEntry spec_l29Entry
  rw [isName_eq]; rfl
def ps (k : List UInt8) : List Entry → Int → List (Int × Int)
  | [], _ => []
  | e :: t, acc => bif e.Item == k then (e.Day, IntKind.wrap .i64 (acc + e.Amount)) :: ps k t (IntKind.wrap .i64 (acc + e.Amount)) else ps k t acc
theorem sums_eq (a : Store) (k : List UInt8) : impl_Store_sums a k = ((ps k a.Entries 0).map Prod.fst, (ps k a.Entries 0).map Prod.snd) := by
  unfold impl_Store_sums
  rw [loopR_list0 (b := impl_Store_sums_b1 a k) (fun e s => bif e.Item == k then .ok (IntKind.wrap .i64 (s.1 + e.Amount), s.2.1 ++ [e.Day], s.2.2 ++ [IntKind.wrap .i64 (s.1 + e.Amount)]) else .ok (s.1, s.2.1, s.2.2)) a.Entries _ (fun j u _ => rfl)]
  have : ∀ (es : List Entry) (acc : Int) (D S : List Int), ∃ z, loopL (ρ := List Int × List Int) (fun e s => bif e.Item == k then .ok (IntKind.wrap .i64 (s.1 + e.Amount), s.2.1 ++ [e.Day], s.2.2 ++ [IntKind.wrap .i64 (s.1 + e.Amount)]) else .ok (s.1, s.2.1, s.2.2)) es (acc, D, S) = .ok (z, D ++ (ps k es acc).map Prod.fst, S ++ (ps k es acc).map Prod.snd) := by
    intro es
    induction es with
    | nil => intro acc D S; exact ⟨acc, by simp [loopL, ps]⟩
    | cons e t ih =>
      intro acc D S
      rw [loopL_cons]
      simp only [ps]
      cases hk : e.Item == k with
      | true =>
        simp only [cond_true]
        obtain ⟨z, hz⟩ := ih (IntKind.wrap .i64 (acc + e.Amount)) (D ++ [e.Day]) (S ++ [IntKind.wrap .i64 (acc + e.Amount)])
        exact ⟨z, by rw [hz]; simp⟩
      | false =>
        simp only [cond_false]
        exact ih acc D S
  obtain ⟨z, hz⟩ := this a.Entries 0 [] []
  rw [hz]
  simp
theorem flow_eq (a : Store) (i : Nat) : spec_l29Flow a (i : Int) = (ps (a.Spares.getD i default).Name a.Entries 0).all (fun x => spec_l00In x.2 0 (a.Spares.getD i default).Most) := by
  unfold spec_l29Flow
  rw [loopR_list0 (b := spec_l29Flow_b1 a (i : Int)) (fun e s => bif e.Item == (a.Spares.getD i default).Name then (bif (!(spec_l00In (IntKind.wrap .i64 (s + e.Amount)) 0 (a.Spares.getD i default).Most)) then .error false else .ok (IntKind.wrap .i64 (s + e.Amount))) else .ok s) a.Entries _ (fun j u _ => rfl)]
  generalize (a.Spares.getD i default) = p
  suffices hh : ∀ (es : List Entry) (acc : Int), (match loopL (fun (e : Entry) (s : Int) => bif e.Item == p.Name then (bif (!(spec_l00In (IntKind.wrap .i64 (s + e.Amount)) 0 p.Most)) then .error false else .ok (IntKind.wrap .i64 (s + e.Amount))) else .ok s) es acc with | .error e => e | .ok s1 => true) = (ps p.Name es acc).all (fun x => spec_l00In x.2 0 p.Most) from hh a.Entries 0
  intro es
  induction es with
  | nil => intro acc; rfl
  | cons e t ih =>
    intro acc
    rw [loopL_cons]
    simp only [ps]
    cases hk : e.Item == p.Name with
    | true =>
      simp only [cond_true, List.all_cons]
      cases hi : spec_l00In (IntKind.wrap .i64 (acc + e.Amount)) 0 p.Most with
      | true =>
        rw [Bool.true_and]
        exact ih _
      | false => rfl
    | false =>
      simp only [cond_false]
      exact ih acc
theorem contains_eq (l : List Int) (x : Spare) : slices_ContainsFunc_int64__impl_ValidStore_1 l x = !(l.all fun n => spec_l00In n 0 x.Most) := by
  unfold slices_ContainsFunc_int64__impl_ValidStore_1 slices_IndexFunc_int64__impl_ValidStore_1
  have e : ∀ n, impl_ValidStore_1 n x = !(spec_l00In n 0 x.Most) := fun _ => rfl
  rcases loopR_first (b := slices_IndexFunc_int64__impl_ValidStore_1_b1 l x) (fun j => impl_ValidStore_1 (l.getD j default) x) (fun j => (j : Int)) (k := l.length - 0) (i := 0) (s := ()) (fun j u _ _ => rfl) with ⟨j, _, h2, h3, h4, h5⟩ | ⟨h1, h2⟩
  · rw [h5]
    simp only [Int.natCast_nonneg, decide_true]
    symm
    rw [Bool.not_eq_true', List.all_eq_false]
    refine ⟨l.getD j default, ?_, ?_⟩
    · rw [List.getD_eq_getElem?_getD, List.getElem?_eq_getElem (by omega), Option.getD_some]; exact List.getElem_mem _
    · rw [e, Bool.not_eq_true'] at h3
      rw [h3]; simp
  · rw [h2]
    simp only
    symm
    rw [show decide ((0 : Int) ≤ -1) = false from rfl, Bool.not_eq_false', List.all_eq_true]
    intro n hn
    obtain ⟨i, hi, rfl⟩ := List.getElem_of_mem hn
    have := h1 i (by omega) (by omega)
    rw [List.getD_eq_getElem?_getD, List.getElem?_eq_getElem hi, Option.getD_some] at this
    rw [e, Bool.not_eq_false'] at this
    exact this
theorem names_lt (a : Store) (hs : ∀ i, i < a.Spares.length → 0 < i → Op.bytesLess (a.Spares.getD (i - 1) default).Name (a.Spares.getD i default).Name = true) :
    ∀ d i, i + d + 1 < a.Spares.length → Op.bytesLess (a.Spares.getD i default).Name (a.Spares.getD (i + d + 1) default).Name = true
  | 0, i, h => by simpa using hs (i + 1) h (by omega)
  | d + 1, i, h => less_trans _ _ _ (names_lt a hs d i (by omega)) (by have := hs (i + (d + 1) + 1) h (by omega); rw [Nat.add_sub_cancel] at this; exact this)
theorem found_eq (a : Store) (k : List UInt8) (hl : a.Spares.length < 9223372036854775808) (hs : ∀ i, i < a.Spares.length → 0 < i → Op.bytesLess (a.Spares.getD (i - 1) default).Name (a.Spares.getD i default).Name = true) :
    (impl_Store_spareOf a k).2 = decide (0 ≤ spec_l29Find a k) ∧ (0 ≤ spec_l29Find a k → (impl_Store_spareOf a k).1 = spec_l29Find a k) := by
  obtain ⟨j, h1, h2, h3, h4⟩ := impl_Store_spareOf_spec a k hl
  rw [h4]
  rcases spec_l29Find_spec a k with ⟨i, g1, g2, g3, g4⟩ | ⟨g1, g2⟩
  · rw [g4]
    have hj : j = i := by
      rcases Nat.lt_trichotomy j i with h | h | h
      · rcases h3 with h3 | h3
        · omega
        · have := names_lt a hs (i - j - 1) j (by omega)
          rw [show j + (i - j - 1) + 1 = i by omega, g2] at this
          rw [this] at h3; cases h3
      · exact h
      · have := h2 i h
        rw [g2, less_irrefl] at this; cases this
    subst hj
    refine ⟨?_, fun _ => rfl⟩
    simp only [Int.natCast_nonneg, decide_true]
    exact decide_eq_true ⟨g1, g2⟩
  · rw [g2]
    refine ⟨?_, fun h => by simp at h⟩
    simp only
    rw [show decide ((0 : Int) ≤ -1) = false from rfl, decide_eq_false_iff_not]
    exact fun h => g1 j h.1 h.2
structure OkS (a : Store) : Prop where
  l1 : a.Spares.length ≤ 16
  l2 : a.Entries.length ≤ 48
  s1 : ∀ i, i < a.Spares.length → spec_l29Item (a.Spares.getD i default) = true
  s2 : ∀ i, i < a.Spares.length → 0 < i → Op.bytesLess (a.Spares.getD (i - 1) default).Name (a.Spares.getD i default).Name = true
  e1 : ∀ i, i < a.Entries.length → spec_l29Entry (a.Entries.getD i default) = true
  e2 : ∀ i, i < a.Entries.length → 0 ≤ spec_l29Find a (a.Entries.getD i default).Item
  e3 : ∀ i, i < a.Entries.length → 0 < i → (a.Entries.getD (i - 1) default).Day ≤ (a.Entries.getD i default).Day
  f : ∀ i, i < a.Spares.length → spec_l29Flow a (i : Int) = true
theorem specOk_iff (a : Store) : spec_l29Ok a = true ↔ OkS a := by
  unfold spec_l29Ok
  cases hc : (decide (16 < (a.Spares.length : Int)) || decide (48 < (a.Entries.length : Int))) with
  | true =>
    simp only [Bool.or_eq_true, decide_eq_true_eq] at hc
    simp only [cond_true, Bool.false_eq_true, false_iff]
    intro h
    have := h.l1; have := h.l2
    omega
  | false =>
    simp only [Bool.or_eq_false_iff, decide_eq_false_iff_not] at hc
    rw [cond_false]
    rcases loopR_all (b := spec_l29Ok_b1 a) (fun i => ((!(spec_l29Item (a.Spares.getD i default))) || (decide (0 < (i : Int)) && !(Op.bytesLess ((a.Spares.getD ((IntKind.wrap .i64 ((i : Int) - 1)).toNat) default).Name) ((a.Spares.getD i default).Name))))) false a.Spares.length (fun j u _ => rfl) with ⟨g1, h1⟩ | ⟨⟨q, hq, g1⟩, h1⟩
    · rw [h1]
      simp only
      have g1 : ∀ i, i < a.Spares.length → spec_l29Item (a.Spares.getD i default) = true ∧ (0 < i → Op.bytesLess (a.Spares.getD (i - 1) default).Name (a.Spares.getD i default).Name = true) := by
        intro i hi
        have := g1 i hi
        simp only [Bool.or_eq_false_iff, Bool.not_eq_false', Bool.and_eq_false_iff, decide_eq_false_iff_not] at this
        refine ⟨this.1, fun h0 => ?_⟩
        rw [wrap_pred h0 (by omega)] at this
        rcases this.2 with h | h
        · omega
        · exact h
      rcases loopR_all (b := spec_l29Ok_b2 a ()) (fun i => (((!(spec_l29Entry (a.Entries.getD i default))) || decide ((spec_l29Find a ((a.Entries.getD i default).Item)) < 0)) || (decide (0 < (i : Int)) && decide (((a.Entries.getD i default).Day) < ((a.Entries.getD ((IntKind.wrap .i64 ((i : Int) - 1)).toNat) default).Day))))) false a.Entries.length (fun j u _ => rfl) with ⟨g2, h2⟩ | ⟨⟨q, hq, g2⟩, h2⟩
      · rw [h2]
        simp only
        have g2 : ∀ i, i < a.Entries.length → spec_l29Entry (a.Entries.getD i default) = true ∧ 0 ≤ spec_l29Find a (a.Entries.getD i default).Item ∧ (0 < i → (a.Entries.getD (i - 1) default).Day ≤ (a.Entries.getD i default).Day) := by
          intro i hi
          have := g2 i hi
          simp only [Bool.or_eq_false_iff, Bool.not_eq_false', Bool.and_eq_false_iff, decide_eq_false_iff_not] at this
          refine ⟨this.1.1, by omega, fun h0 => ?_⟩
          rw [wrap_pred h0 (by omega)] at this
          rcases this.2 with h | h
          · omega
          · omega
        rcases loopR_all (b := spec_l29Ok_b3 a () ()) (fun i => (!(spec_l29Flow a (i : Int)))) false a.Spares.length (fun j u _ => rfl) with ⟨g3, h3⟩ | ⟨⟨q, hq, g3⟩, h3⟩
        · rw [h3]
          simp only [true_iff]
          exact ⟨by omega, by omega, fun i hi => (g1 i hi).1, fun i hi => (g1 i hi).2, fun i hi => (g2 i hi).1, fun i hi => (g2 i hi).2.1, fun i hi => (g2 i hi).2.2, fun i hi => by simpa using g3 i hi⟩
        · rw [h3]
          simp only [Bool.false_eq_true, false_iff]
          intro h
          rw [h.f q hq] at g3
          cases g3
      · rw [h2]
        simp only [Bool.false_eq_true, false_iff]
        intro h
        simp only [Bool.or_eq_true, Bool.not_eq_true', Bool.and_eq_true, decide_eq_true_eq] at g2
        rcases g2 with (g | g) | g
        · rw [h.e1 q hq] at g; cases g
        · have := h.e2 q hq; omega
        · rw [wrap_pred (by omega) (by omega)] at g
          have := h.e3 q hq (by omega)
          omega
    · rw [h1]
      simp only [Bool.false_eq_true, false_iff]
      intro h
      simp only [Bool.or_eq_true, Bool.not_eq_true', Bool.and_eq_true, decide_eq_true_eq] at g1
      rcases g1 with g | g
      · rw [h.s1 q hq] at g; cases g
      · rw [wrap_pred (by omega) (by omega), h.s2 q hq (by omega)] at g
        exact absurd g.2 (by simp)
theorem implOk_iff (a : Store) (hl1 : a.Spares.length < 9223372036854775808) (hl2 : a.Entries.length < 9223372036854775808) : impl_ValidStore a = true ↔ OkS a := by
  unfold impl_ValidStore
  have hflow : ∀ i, slices_ContainsFunc_int64__impl_ValidStore_1 ((impl_Store_sums a ((a.Spares.getD i default).Name)).2) (a.Spares.getD i default) = !(spec_l29Flow a (i : Int)) := by
    intro i
    rw [contains_eq, sums_eq, flow_eq]
    simp only [List.all_map]
    rfl
  rcases loopR_all (b := impl_ValidStore_b1 a) (fun i => (((!(impl_isSpare (a.Spares.getD i default))) || (decide (0 < (i : Int)) && !(Op.bytesLess ((a.Spares.getD ((IntKind.wrap .i64 ((i : Int) - 1)).toNat) default).Name) ((a.Spares.getD i default).Name)))) || (slices_ContainsFunc_int64__impl_ValidStore_1 ((impl_Store_sums a ((a.Spares.getD i default).Name)).2) (a.Spares.getD i default)))) false a.Spares.length (fun j u _ => rfl) with ⟨g1, h1⟩ | ⟨⟨q, hq, g1⟩, h1⟩
  · rw [h1]
    simp only
    have g1 : ∀ i, i < a.Spares.length → spec_l29Item (a.Spares.getD i default) = true ∧ (0 < i → Op.bytesLess (a.Spares.getD (i - 1) default).Name (a.Spares.getD i default).Name = true) ∧ spec_l29Flow a (i : Int) = true := by
      intro i hi
      have := g1 i hi
      rw [isSpare_eq, hflow] at this
      simp only [Bool.or_eq_false_iff, Bool.not_eq_false', Bool.and_eq_false_iff, decide_eq_false_iff_not] at this
      refine ⟨this.1.1, fun h0 => ?_, this.2⟩
      rw [wrap_pred h0 (by omega)] at this
      rcases this.1.2 with h | h
      · omega
      · exact h
    have hfound := fun k => (found_eq a k hl1 (fun i hi => (g1 i hi).2.1)).1
    rcases loopR_all (b := impl_ValidStore_b2 a ()) (fun i => (((!(impl_isEntry (a.Entries.getD i default))) || (!((impl_Store_spareOf a ((a.Entries.getD i default).Item)).2))) || (decide (0 < (i : Int)) && decide (((a.Entries.getD i default).Day) < ((a.Entries.getD ((IntKind.wrap .i64 ((i : Int) - 1)).toNat) default).Day))))) false a.Entries.length (fun j u _ => rfl) with ⟨g2, h2⟩ | ⟨⟨q, hq, g2⟩, h2⟩
    · rw [h2]
      simp only [impl_few]
      have g2 : ∀ i, i < a.Entries.length → spec_l29Entry (a.Entries.getD i default) = true ∧ 0 ≤ spec_l29Find a (a.Entries.getD i default).Item ∧ (0 < i → (a.Entries.getD (i - 1) default).Day ≤ (a.Entries.getD i default).Day) := by
        intro i hi
        have := g2 i hi
        rw [isEntry_eq, hfound] at this
        simp only [Bool.or_eq_false_iff, Bool.not_eq_false', Bool.and_eq_false_iff, decide_eq_false_iff_not, decide_eq_true_eq] at this
        refine ⟨this.1.1, this.1.2, fun h0 => ?_⟩
        rw [wrap_pred h0 (by omega)] at this
        rcases this.2 with h | h
        · omega
        · omega
      simp only [Bool.and_eq_true, decide_eq_true_eq]
      constructor
      · intro h
        exact ⟨by omega, by omega, fun i hi => (g1 i hi).1, fun i hi => (g1 i hi).2.1, fun i hi => (g2 i hi).1, fun i hi => (g2 i hi).2.1, fun i hi => (g2 i hi).2.2, fun i hi => (g1 i hi).2.2⟩
      · intro h
        have := h.l1; have := h.l2
        exact ⟨by omega, by omega⟩
    · rw [h2]
      simp only [Bool.false_eq_true, false_iff]
      intro h
      rw [isEntry_eq, hfound] at g2
      simp only [Bool.or_eq_true, Bool.not_eq_true', Bool.and_eq_true, decide_eq_true_eq, decide_eq_false_iff_not] at g2
      rcases g2 with (g | g) | g
      · rw [h.e1 q hq] at g; cases g
      · have := h.e2 q hq; omega
      · rw [wrap_pred (by omega) (by omega)] at g
        have := h.e3 q hq (by omega)
        omega
  · rw [h1]
    simp only [Bool.false_eq_true, false_iff]
    intro h
    rw [isSpare_eq, hflow] at g1
    simp only [Bool.or_eq_true, Bool.not_eq_true', Bool.and_eq_true, decide_eq_true_eq] at g1
    rcases g1 with (g | g) | g
    · rw [h.s1 q hq] at g; cases g
    · rw [wrap_pred (by omega) (by omega), h.s2 q hq (by omega)] at g
      exact absurd g.2 (by simp)
    · rw [h.f q hq] at g; cases g
theorem validStore_eq (a : Store) (h : bwStore a) : impl_ValidStore a = spec_l29Ok a := by
  apply Bool.eq_iff_iff.2
  rw [specOk_iff, implOk_iff a (And.left (And.left h)) (And.left (And.right h))]
end Go.Ab

namespace Go.Ab
open Go Go.Proofs
theorem days_le (a : Store) (hok : OkS a) : a.Entries.Pairwise (fun x y => x.Day ≤ y.Day) := by
  have h : ∀ (n i : Nat), i + n < a.Entries.length → (a.Entries.getD i default).Day ≤ (a.Entries.getD (i + n) default).Day := by
    intro n
    induction n with
    | zero => intro i _; exact Int.le_refl _
    | succ n ih =>
      intro i hi
      have h1 := ih i (by omega)
      have h2 := hok.e3 (i + (n + 1)) hi (by omega)
      rw [show i + (n + 1) - 1 = i + n by omega] at h2
      omega
  rw [List.pairwise_iff_getElem]
  intro i j hi hj hij
  have := h (j - i) i (by omega)
  rw [show i + (j - i) = j by omega, List.getD_eq_getElem?_getD, List.getD_eq_getElem?_getD, List.getElem?_eq_getElem hi, List.getElem?_eq_getElem hj, Option.getD_some, Option.getD_some] at this
  exact this
end Go.Ab

namespace Go.Ab
open Go Go.Proofs
theorem impl_clone_Spare_DD : DOk Tryz.prog (DD []) := DD_nil _
def impl_clone_Spare (a0 : (List Spare)) : (List Spare) :=
  (List.replicate 0 (default : Spare)) ++ a0
theorem impl_clone_Spare_den (a0 : (List Spare)) (hb0 : a0.length < 1099511627776) (hb1 : ∀ v ∈ a0, bdSpare v) : Den Tryz.prog 37 [encL 3 eSpare a0] (ownL 30 3 eSpare (impl_clone_Spare a0)) := by
  generalize hR : impl_clone_Spare a0 = r
  unfold impl_clone_Spare at hR
  refine den_intro G_ok Tryz.func37 (by kernel_rfl) rfl Tryz.ntmps37 (by rw [Tryz.results37]) (by simp) rfl ?_
  intro c hL hc hk
  obtain ⟨hL0, _⟩ := hL
  have hw0 : a0.length < 9223372036854775808 := Nat.lt_succ_of_le (lens_encL hL0).1
  have hw1 : ∀ v ∈ a0, bwSpare v := fun v hv => Spare_lens v ((lens_encL hL0).2 v hv)
  clear hL0
  simp only [pars, Nat.zero_add]
  refine AWP.seq ?_
  refine AWP.regS G_ok impl_clone_Spare_DD hc (by kernel_rfl) (fun K hK => ?_); simp only [ea, gv, sv, reduceCtorEq, reduceIte, Nat.reduceBEq, Nat.reduceAdd, Nat.reduceEqDiff, Nat.reduceLT, Nat.reduceLeDiff, Nat.reduceMul, Nat.reduceSub, BEq.rfl, beq_self_eq_true, Int.reduceToNat]
  (refine hK _ ?_)
  clear hK K
  refine AWP.seq ?_
  refine AWP.regS G_ok impl_clone_Spare_DD hc (by kernel_rfl) (fun K hK => ?_); simp only [ea, gv, sv, reduceCtorEq, reduceIte, Nat.reduceBEq, Nat.reduceAdd, Nat.reduceEqDiff, Nat.reduceLT, Nat.reduceLeDiff, Nat.reduceMul, Nat.reduceSub, BEq.rfl, beq_self_eq_true, Int.reduceToNat]
  (refine ⟨by (omega), hK _ ?_⟩)
  clear hK K
  refine AWP.ret ?_
  subst hR
  (simp only [en, si, ea, gv, sv, hk, reduceCtorEq, reduceIte, Nat.reduceBEq, Nat.reduceAdd, Nat.reduceEqDiff, Nat.reduceLT, Nat.reduceLeDiff, Nat.reduceMul, Nat.reduceSub, BEq.rfl, beq_self_eq_true, Int.reduceToNat]; (and_intros <;> first | rfl | omega | (left; and_intros <;> (intro j hj; simp only [pw, Bool.cond_eq_ite, Bool.and_eq_true, decide_eq_true_eq]; (repeat' split) <;> simp [putL, borrowL, borrow, NoBorL, NoBor])) | (intro j hj; simp only [pw, Bool.cond_eq_ite, Bool.and_eq_true, decide_eq_true_eq]; (try rw [subL_getD _ _ _ _ (by assumption)]); (try rw [clearL_getD _ _ _ _ (by omega)]); (repeat' split) <;> first | omega | exact simOL_refl _ | (simp_all; done))))
def D_impl_clone_Spare : DF
  | [x0] => some (ownL 30 3 eSpare (impl_clone_Spare (rdL dSpare x0)), false, [wL 3 eSpare dSpare x0, (rdL dSpare x0).length < 1099511627776, ∀ v ∈ (rdL dSpare x0), bdSpare v])
  | _ => none
def Dz_impl_clone_Spare : DF
  | [x0] => some (ownL 30 3 eSpare (impl_clone_Spare (rdL dSpare x0)), true, [wL 3 eSpare dSpare x0, (rdL dSpare x0).length < 1099511627776, ∀ v ∈ (rdL dSpare x0), bdSpare v])
  | _ => none
theorem D_impl_clone_Spare_ok : OkD Tryz.prog 37 D_impl_clone_Spare := by
  intro xs r z ob h ho
  unfold D_impl_clone_Spare at h
  split at h
  · simp only [Option.some.injEq, Prod.mk.injEq] at h
    obtain ⟨rfl, rfl, rfl⟩ := h
    obtain ⟨h0, hb0, hb1, _⟩ := ho
    exact Den.sim (impl_clone_Spare_den _ hb0 hb1) (simOL_cons (wL_sim h0).1 <| trivial) (noIdL_cons (wL_sim h0).2 <| rfl) rfl
  · cases h
theorem Dz_impl_clone_Spare_ok : OkD Tryz.prog 37 Dz_impl_clone_Spare := by
  intro xs r z ob h ho
  unfold Dz_impl_clone_Spare at h
  split at h
  · simp only [Option.some.injEq, Prod.mk.injEq] at h
    obtain ⟨rfl, rfl, rfl⟩ := h
    obtain ⟨h0, hb0, hb1, _⟩ := ho
    exact Den.sim (impl_clone_Spare_den _ hb0 hb1) (simOL_cons (wL_sim h0).1 <| trivial) (noIdL_cons (wL_sim h0).2 <| rfl) rfl
  · cases h
end Go.Ab

namespace Go.Ab
open Go Go.Proofs
theorem impl_clone_Entry_DD : DOk Tryz.prog (DD []) := DD_nil _
def impl_clone_Entry (a0 : (List Entry)) : (List Entry) :=
  (List.replicate 0 (default : Entry)) ++ a0
theorem impl_clone_Entry_den (a0 : (List Entry)) (hb0 : a0.length < 1099511627776) (hb1 : ∀ v ∈ a0, bdEntry v) : Den Tryz.prog 39 [encL 3 eEntry a0] (ownL 33 3 eEntry (impl_clone_Entry a0)) := by
  generalize hR : impl_clone_Entry a0 = r
  unfold impl_clone_Entry at hR
  refine den_intro G_ok Tryz.func39 (by kernel_rfl) rfl Tryz.ntmps39 (by rw [Tryz.results39]) (by simp) rfl ?_
  intro c hL hc hk
  obtain ⟨hL0, _⟩ := hL
  have hw0 : a0.length < 9223372036854775808 := Nat.lt_succ_of_le (lens_encL hL0).1
  have hw1 : ∀ v ∈ a0, bwEntry v := fun v hv => Entry_lens v ((lens_encL hL0).2 v hv)
  clear hL0
  simp only [pars, Nat.zero_add]
  refine AWP.seq ?_
  refine AWP.regS G_ok impl_clone_Entry_DD hc (by kernel_rfl) (fun K hK => ?_); simp only [ea, gv, sv, reduceCtorEq, reduceIte, Nat.reduceBEq, Nat.reduceAdd, Nat.reduceEqDiff, Nat.reduceLT, Nat.reduceLeDiff, Nat.reduceMul, Nat.reduceSub, BEq.rfl, beq_self_eq_true, Int.reduceToNat]
  (refine hK _ ?_)
  clear hK K
  refine AWP.seq ?_
  refine AWP.regS G_ok impl_clone_Entry_DD hc (by kernel_rfl) (fun K hK => ?_); simp only [ea, gv, sv, reduceCtorEq, reduceIte, Nat.reduceBEq, Nat.reduceAdd, Nat.reduceEqDiff, Nat.reduceLT, Nat.reduceLeDiff, Nat.reduceMul, Nat.reduceSub, BEq.rfl, beq_self_eq_true, Int.reduceToNat]
  (refine ⟨by (omega), hK _ ?_⟩)
  clear hK K
  refine AWP.ret ?_
  subst hR
  (simp only [en, si, ea, gv, sv, hk, reduceCtorEq, reduceIte, Nat.reduceBEq, Nat.reduceAdd, Nat.reduceEqDiff, Nat.reduceLT, Nat.reduceLeDiff, Nat.reduceMul, Nat.reduceSub, BEq.rfl, beq_self_eq_true, Int.reduceToNat]; (and_intros <;> first | rfl | omega | (left; and_intros <;> (intro j hj; simp only [pw, Bool.cond_eq_ite, Bool.and_eq_true, decide_eq_true_eq]; (repeat' split) <;> simp [putL, borrowL, borrow, NoBorL, NoBor])) | (intro j hj; simp only [pw, Bool.cond_eq_ite, Bool.and_eq_true, decide_eq_true_eq]; (try rw [subL_getD _ _ _ _ (by assumption)]); (try rw [clearL_getD _ _ _ _ (by omega)]); (repeat' split) <;> first | omega | exact simOL_refl _ | (simp_all; done))))
def D_impl_clone_Entry : DF
  | [x0] => some (ownL 33 3 eEntry (impl_clone_Entry (rdL dEntry x0)), false, [wL 3 eEntry dEntry x0, (rdL dEntry x0).length < 1099511627776, ∀ v ∈ (rdL dEntry x0), bdEntry v])
  | _ => none
def Dz_impl_clone_Entry : DF
  | [x0] => some (ownL 33 3 eEntry (impl_clone_Entry (rdL dEntry x0)), true, [wL 3 eEntry dEntry x0, (rdL dEntry x0).length < 1099511627776, ∀ v ∈ (rdL dEntry x0), bdEntry v])
  | _ => none
theorem D_impl_clone_Entry_ok : OkD Tryz.prog 39 D_impl_clone_Entry := by
  intro xs r z ob h ho
  unfold D_impl_clone_Entry at h
  split at h
  · simp only [Option.some.injEq, Prod.mk.injEq] at h
    obtain ⟨rfl, rfl, rfl⟩ := h
    obtain ⟨h0, hb0, hb1, _⟩ := ho
    exact Den.sim (impl_clone_Entry_den _ hb0 hb1) (simOL_cons (wL_sim h0).1 <| trivial) (noIdL_cons (wL_sim h0).2 <| rfl) rfl
  · cases h
theorem Dz_impl_clone_Entry_ok : OkD Tryz.prog 39 Dz_impl_clone_Entry := by
  intro xs r z ob h ho
  unfold Dz_impl_clone_Entry at h
  split at h
  · simp only [Option.some.injEq, Prod.mk.injEq] at h
    obtain ⟨rfl, rfl, rfl⟩ := h
    obtain ⟨h0, hb0, hb1, _⟩ := ho
    exact Den.sim (impl_clone_Entry_den _ hb0 hb1) (simOL_cons (wL_sim h0).1 <| trivial) (noIdL_cons (wL_sim h0).2 <| rfl) rfl
  · cases h
end Go.Ab
