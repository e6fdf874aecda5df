/- A part of a proof: walks of functions and lemmas of our own. No conditions. -/
import Derived.Test.YtphjpngpmhammaaTAj
import Derived.Test.YtphjpngpmhammaaTAm
import Derived.Test.YtphjpngpmhammaaTAh
set_option linter.unusedSectionVars false
set_option linter.unusedVariables false
set_option linter.unusedSimpArgs false
namespace Go.Ab
open Go Go.Proofs
theorem laws_heldSpareS_DD : DOk Try.prog (DD [(82, dP D_laws_markText)]) := DD_cons D_laws_markText_ok.e <| DD_nil _
def laws_heldSpareS_b1 (a0 : (List Spare)) (a1 : Int) (i1 : Nat) (s1 : Int) : Except (Int) (Int) :=
  (bif (((a0.getD i1 default).Name) != (laws_markText s1)) then .error (-1) else (bif (((a0.getD i1 default).Least) != (IntKind.wrap .i64 (s1 + 1))) then .error (-1) else (bif (((a0.getD i1 default).Most) != (IntKind.wrap .i64 ((IntKind.wrap .i64 (s1 + 1)) + 1))) then .error (-1) else .ok (IntKind.wrap .i64 ((IntKind.wrap .i64 ((IntKind.wrap .i64 (s1 + 1)) + 1)) + 1)))))
def laws_heldSpareS (a0 : (List Spare)) (a1 : Int) : Int :=
  (match loopR (laws_heldSpareS_b1 a0 a1) (a0.length - 0) 0 a1 with | .error e => e | .ok s1 => s1)
theorem laws_heldSpareS_den (a0 : (List Spare)) (a1 : Int) (hp0 : 0 ≤ a1) (hp1 : a1 ≤ 1152921504606846976) (hp2 : a0.length < 1099511627776) : Den Try.prog 99 [encL 3 eSpare a0, .int .i64 a1] (.int .i64 (laws_heldSpareS a0 a1)) := by
  generalize hR : laws_heldSpareS a0 a1 = r
  unfold laws_heldSpareS at hR
  refine den_intro G_ok Try.func99 (by kernel_rfl) rfl Try.ntmps99 (by rw [Try.results99]) (by simp) rfl ?_
  intro c hL hc hk
  obtain ⟨hL0, hL1, _⟩ := hL
  have hw0 : a0.length < 9223372036854775808 := Nat.lt_succ_of_le (lens_encL hL0).1
  have hw1 : ∀ v ∈ a0, bwSpare v := fun v hv => Spare_lens v ((lens_encL hL0).2 v hv)
  clear hL0 hL1
  simp only [pars, Nat.zero_add]
  refine AWP.seq ?_
  refine AWP.regS G_ok laws_heldSpareS_DD hc (by kernel_rfl) (fun K hK => ?_); simp only [ea, gv, sv, D_laws_markText, reduceCtorEq, reduceIte, Nat.reduceBEq, Nat.reduceAdd, Nat.reduceEqDiff, Nat.reduceLT, Nat.reduceLeDiff, Nat.reduceMul, Nat.reduceSub, BEq.rfl, beq_self_eq_true, Int.reduceToNat]
  (refine hK _ ?_)
  clear hK K
  refine AWP.seq ?_
  refine AWP.seq ?_
  refine AWP.regS G_ok laws_heldSpareS_DD hc (by kernel_rfl) (fun K hK => ?_); simp only [ea, gv, sv, D_laws_markText, reduceCtorEq, reduceIte, Nat.reduceBEq, Nat.reduceAdd, Nat.reduceEqDiff, Nat.reduceLT, Nat.reduceLeDiff, Nat.reduceMul, Nat.reduceSub, BEq.rfl, beq_self_eq_true, Int.reduceToNat]
  (refine hK _ ?_)
  clear hK K
  refine AWP.block ?_
  generalize hz1 : loopR (laws_heldSpareS_b1 a0 a1) (a0.length - 0) 0 a1 = z1 at hR
  refine AWP.range (laws_heldSpareS_b1 a0 a1) (fun i1 s1 => ⟨[(0, encL 3 eSpare a0), (1, .int .i64 s1), (5, .int .i64 (i1 : Int))], []⟩) (fun i1 s1 => 0 ≤ s1 ∧ s1 ≤ a1 + 3 * i1) (a0.length) 0 a1 [] hz1 (by (omega)) (by ((and_intros <;> simp only [ob, ln] at * <;> omega))) (by (simp only [si, ea, gv, sv, hk, reduceCtorEq, reduceIte, Nat.reduceBEq, Nat.reduceAdd, Nat.reduceEqDiff, Nat.reduceLT, Nat.reduceLeDiff, Nat.reduceMul, Nat.reduceSub, BEq.rfl, beq_self_eq_true, Int.reduceToNat]; trivial)) ?_
  clear hz1
  intro i1 s1 hi1 hW1 hz1
  refine AWP.seq ?_
  refine AWP.seq ?_
  refine AWP.regS G_ok laws_heldSpareS_DD hc (by kernel_rfl) (fun K hK => ?_); simp only [ea, gv, sv, D_laws_markText, reduceCtorEq, reduceIte, Nat.reduceBEq, Nat.reduceAdd, Nat.reduceEqDiff, Nat.reduceLT, Nat.reduceLeDiff, Nat.reduceMul, Nat.reduceSub, BEq.rfl, beq_self_eq_true, Int.reduceToNat]
  (refine hK _ ?_)
  clear hK K
  refine AWP.cond rfl (fun hb => ?_) (fun hb => ?_)
  · have hlt1 : i1 < a0.length := by ((simp only [ob, ln, bdv, sv] at *; omega))
    rw [loopR_lt hlt1] at hz1; simp only [laws_heldSpareS_b1] at hz1
    refine AWP.skip ?_
    refine AWP.seq ?_
    refine AWP.block ?_
    refine AWP.seq ?_
    refine AWP.seq ?_
    refine AWP.regD mixed G_ok laws_heldSpareS_DD hc 7 (by kernel_rfl) (by kernel_rfl) (fun K hK => ?_); simp only [ea, gv, sv, D_laws_markText, reduceCtorEq, reduceIte, Nat.reduceBEq, Nat.reduceAdd, Nat.reduceEqDiff, Nat.reduceLT, Nat.reduceLeDiff, Nat.reduceMul, Nat.reduceSub, BEq.rfl, beq_self_eq_true, Int.reduceToNat]
    (refine ⟨by (omega), hK _ ?_⟩)
    clear hK K
    refine AWP.cond rfl (fun hb => ?_) (fun hb => ?_)
    · (simp only [hb, cond_true] at hz1)
      refine AWP.seq ?_
      refine AWP.regS G_ok laws_heldSpareS_DD hc (by kernel_rfl) (fun K hK => ?_); simp only [ea, gv, sv, D_laws_markText, reduceCtorEq, reduceIte, Nat.reduceBEq, Nat.reduceAdd, Nat.reduceEqDiff, Nat.reduceLT, Nat.reduceLeDiff, Nat.reduceMul, Nat.reduceSub, BEq.rfl, beq_self_eq_true, Int.reduceToNat]
      (refine hK _ ?_)
      clear hK K
      refine AWP.ret ?_
      subst hz1
      dsimp only at hR
      subst hR
      (simp only [en, si, ea, gv, sv, hk, reduceCtorEq, reduceIte, Nat.reduceBEq, Nat.reduceAdd, Nat.reduceEqDiff, Nat.reduceLT, Nat.reduceLeDiff, Nat.reduceMul, Nat.reduceSub, BEq.rfl, beq_self_eq_true, Int.reduceToNat]; done)
    · (simp only [hb, cond_false] at hz1)
      refine AWP.skip ?_
      refine AWP.seq ?_
      refine AWP.regS G_ok laws_heldSpareS_DD hc (by kernel_rfl) (fun K hK => ?_); simp only [ea, gv, sv, D_laws_markText, reduceCtorEq, reduceIte, Nat.reduceBEq, Nat.reduceAdd, Nat.reduceEqDiff, Nat.reduceLT, Nat.reduceLeDiff, Nat.reduceMul, Nat.reduceSub, BEq.rfl, beq_self_eq_true, Int.reduceToNat]
      (refine hK _ ?_)
      clear hK K
      refine AWP.seq ?_
      refine AWP.seq ?_
      refine AWP.regS G_ok laws_heldSpareS_DD hc (by kernel_rfl) (fun K hK => ?_); simp only [ea, gv, sv, D_laws_markText, reduceCtorEq, reduceIte, Nat.reduceBEq, Nat.reduceAdd, Nat.reduceEqDiff, Nat.reduceLT, Nat.reduceLeDiff, Nat.reduceMul, Nat.reduceSub, BEq.rfl, beq_self_eq_true, Int.reduceToNat]
      (refine ⟨by (omega), hK _ ?_⟩)
      clear hK K
      refine AWP.cond rfl (fun hb => ?_) (fun hb => ?_)
      · (simp only [hb, cond_true] at hz1)
        refine AWP.seq ?_
        refine AWP.regS G_ok laws_heldSpareS_DD hc (by kernel_rfl) (fun K hK => ?_); simp only [ea, gv, sv, D_laws_markText, reduceCtorEq, reduceIte, Nat.reduceBEq, Nat.reduceAdd, Nat.reduceEqDiff, Nat.reduceLT, Nat.reduceLeDiff, Nat.reduceMul, Nat.reduceSub, BEq.rfl, beq_self_eq_true, Int.reduceToNat]
        (refine hK _ ?_)
        clear hK K
        refine AWP.ret ?_
        subst hz1
        dsimp only at hR
        subst hR
        (simp only [en, si, ea, gv, sv, hk, reduceCtorEq, reduceIte, Nat.reduceBEq, Nat.reduceAdd, Nat.reduceEqDiff, Nat.reduceLT, Nat.reduceLeDiff, Nat.reduceMul, Nat.reduceSub, BEq.rfl, beq_self_eq_true, Int.reduceToNat]; done)
      · (simp only [hb, cond_false] at hz1)
        refine AWP.skip ?_
        refine AWP.seq ?_
        refine AWP.regS G_ok laws_heldSpareS_DD hc (by kernel_rfl) (fun K hK => ?_); simp only [ea, gv, sv, D_laws_markText, reduceCtorEq, reduceIte, Nat.reduceBEq, Nat.reduceAdd, Nat.reduceEqDiff, Nat.reduceLT, Nat.reduceLeDiff, Nat.reduceMul, Nat.reduceSub, BEq.rfl, beq_self_eq_true, Int.reduceToNat]
        (refine hK _ ?_)
        clear hK K
        refine AWP.seq ?_
        refine AWP.seq ?_
        refine AWP.regS G_ok laws_heldSpareS_DD hc (by kernel_rfl) (fun K hK => ?_); simp only [ea, gv, sv, D_laws_markText, reduceCtorEq, reduceIte, Nat.reduceBEq, Nat.reduceAdd, Nat.reduceEqDiff, Nat.reduceLT, Nat.reduceLeDiff, Nat.reduceMul, Nat.reduceSub, BEq.rfl, beq_self_eq_true, Int.reduceToNat]
        (refine ⟨by (omega), hK _ ?_⟩)
        clear hK K
        refine AWP.cond rfl (fun hb => ?_) (fun hb => ?_)
        · (simp only [hb, cond_true] at hz1)
          refine AWP.seq ?_
          refine AWP.regS G_ok laws_heldSpareS_DD hc (by kernel_rfl) (fun K hK => ?_); simp only [ea, gv, sv, D_laws_markText, reduceCtorEq, reduceIte, Nat.reduceBEq, Nat.reduceAdd, Nat.reduceEqDiff, Nat.reduceLT, Nat.reduceLeDiff, Nat.reduceMul, Nat.reduceSub, BEq.rfl, beq_self_eq_true, Int.reduceToNat]
          (refine hK _ ?_)
          clear hK K
          refine AWP.ret ?_
          subst hz1
          dsimp only at hR
          subst hR
          (simp only [en, si, ea, gv, sv, hk, reduceCtorEq, reduceIte, Nat.reduceBEq, Nat.reduceAdd, Nat.reduceEqDiff, Nat.reduceLT, Nat.reduceLeDiff, Nat.reduceMul, Nat.reduceSub, BEq.rfl, beq_self_eq_true, Int.reduceToNat]; done)
        · (simp only [hb, cond_false] at hz1)
          refine AWP.skip ?_
          refine AWP.regS G_ok laws_heldSpareS_DD hc (by kernel_rfl) (fun K hK => ?_); simp only [ea, gv, sv, D_laws_markText, reduceCtorEq, reduceIte, Nat.reduceBEq, Nat.reduceAdd, Nat.reduceEqDiff, Nat.reduceLT, Nat.reduceLeDiff, Nat.reduceMul, Nat.reduceSub, BEq.rfl, beq_self_eq_true, Int.reduceToNat]
          (refine hK _ ?_)
          clear hK K
          refine AWP.regS G_ok laws_heldSpareS_DD hc (by kernel_rfl) (fun K hK => ?_); simp only [ea, gv, sv, D_laws_markText, reduceCtorEq, reduceIte, Nat.reduceBEq, Nat.reduceAdd, Nat.reduceEqDiff, Nat.reduceLT, Nat.reduceLeDiff, Nat.reduceMul, Nat.reduceSub, BEq.rfl, beq_self_eq_true, Int.reduceToNat]
          (refine hK _ ?_)
          clear hK K
          exact ⟨_, [], hlt1, by ((and_intros <;> simp only [ob, ln] at * <;> omega)), hz1, by (simp only [si, ea, gv, sv, hk, reduceCtorEq, reduceIte, Nat.reduceBEq, Nat.reduceAdd, Nat.reduceEqDiff, Nat.reduceLT, Nat.reduceLeDiff, Nat.reduceMul, Nat.reduceSub, BEq.rfl, beq_self_eq_true, Int.reduceToNat]; (and_intros <;> first | trivial | (rw [IntKind.wrap_i64]; omega)))⟩
  · obtain rfl : i1 = a0.length := by ((simp only [ob, ln, bdv, sv] at *; omega))
    rw [loopR_ge (Nat.le_refl _)] at hz1; subst hz1; dsimp only at hR
    refine AWP.exit ?_; refine exitTo_here ?_
    refine AWP.seq ?_
    refine AWP.regS G_ok laws_heldSpareS_DD hc (by kernel_rfl) (fun K hK => ?_); simp only [ea, gv, sv, D_laws_markText, reduceCtorEq, reduceIte, Nat.reduceBEq, Nat.reduceAdd, Nat.reduceEqDiff, Nat.reduceLT, Nat.reduceLeDiff, Nat.reduceMul, Nat.reduceSub, BEq.rfl, beq_self_eq_true, Int.reduceToNat]
    (refine hK _ ?_)
    clear hK K
    refine AWP.ret ?_
    subst hR
    (simp only [en, si, ea, gv, sv, hk, reduceCtorEq, reduceIte, Nat.reduceBEq, Nat.reduceAdd, Nat.reduceEqDiff, Nat.reduceLT, Nat.reduceLeDiff, Nat.reduceMul, Nat.reduceSub, BEq.rfl, beq_self_eq_true, Int.reduceToNat]; done)
def D_laws_heldSpareS : DF
  | [x0, x1] => some (.int .i64 (laws_heldSpareS (rdL dSpare x0) (rdI x1)), false, [wL 3 eSpare dSpare x0, wI .i64 x1, 0 ≤ (rdI x1), (rdI x1) ≤ 1152921504606846976, (rdL dSpare x0).length < 1099511627776])
  | _ => none
theorem D_laws_heldSpareS_ok : OkD Try.prog 99 D_laws_heldSpareS := by
  intro xs r z ob h ho
  unfold D_laws_heldSpareS at h
  split at h
  · simp only [Option.some.injEq, Prod.mk.injEq] at h
    obtain ⟨rfl, rfl, rfl⟩ := h
    obtain ⟨h0, h1, hp0, hp1, hp2, _⟩ := ho
    exact Den.sim (laws_heldSpareS_den _ _ hp0 hp1 hp2) (simOL_cons (wL_sim h0).1 <| simOL_cons (wI_sim h1).1 <| trivial) (noIdL_cons (wL_sim h0).2 <| noIdL_cons (wI_sim h1).2 <| rfl) rfl
  · cases h
end Go.Ab

namespace Go.Ab
open Go Go.Proofs
def mkSpare (v : Int) : Spare := ⟨(laws_markText v), (v + 1), (v + 2)⟩
theorem laws_markSpareS_len (a : List Spare) (k : Int) : (laws_markSpareS a k).2.length = a.length := by
  unfold laws_markSpareS
  obtain ⟨t, h1, h2⟩ := loopR_total (b := laws_markSpareS_b1 a k) (fun _ s => s.2.length = a.length) (k := a.length - 0) (i := 0) (s := (k, a)) rfl (by
    intro j u _ _ h
    exact ⟨_, rfl, by simpa using h⟩)
  rw [h1]
  exact h2
theorem laws_markSpareS_sub (a : List Spare) (k : Int) : subL (laws_markSpareS a k).2 0 a.length = (laws_markSpareS a k).2 := by
  rw [← laws_markSpareS_len a k]; exact subL_all _
theorem laws_markSpareS_eq (a : List Spare) (k : Int) (h0 : 0 ≤ k) (h1 : k + 3 * a.length < 4611686018427387904) : laws_markSpareS a k = (k + 3 * a.length, (List.range a.length).map (fun j : Nat => mkSpare (k + 3 * j))) := by
  unfold laws_markSpareS
  obtain ⟨t, q1, q2, q3, q4⟩ := loopR_total (b := laws_markSpareS_b1 a k) (fun i s => s.1 = k + 3 * i ∧ s.2.length = a.length ∧ ∀ j, j < i → s.2.getD j default = mkSpare (k + 3 * j)) (k := a.length - 0) (i := 0) (s := (k, a)) ⟨by simp, rfl, by intro j hj; omega⟩ (by
    intro j u _ hj ⟨h2, h3, h4⟩
    have w1 : ∀ m : Int, 0 ≤ m → m < 4611686018427387904 → IntKind.wrap .i64 (m + 1) = m + 1 := by intro m _ _; rw [IntKind.wrap_i64]; omega
    have w0 : ∀ m : Int, 0 ≤ m → m < 4611686018427387904 → IntKind.wrap .i64 m = m := by intro m _ _; rw [IntKind.wrap_i64]; omega
    refine ⟨_, rfl, ?_, ?_, ?_⟩
    · simp only [h2, IntKind.wrap_i64]; omega
    · simpa using h3
    · intro q hq
      simp only
      rw [lgetD_set]
      by_cases h : q = j
      · subst h
        rw [if_pos ⟨rfl, by omega⟩, h2]
        simp only [mkSpare]
        all_goals (try rw [Spare.mk.injEq])
        all_goals (and_intros <;> first | rfl | trivial | (simp only [IntKind.wrap_i64]; omega) | (congr 1; (simp only [IntKind.wrap_i64]; omega)))
      · rw [if_neg (fun hh => h hh.1)]
        exact h4 q (by omega))
  rw [q1]
  simp only [Nat.zero_add, Nat.sub_zero] at q2 q4
  simp only [q2]
  congr 1
  apply getD_ext
  · simpa using q3
  · intro i hi
    rw [q4 i (by omega)]
    simp [List.getD_eq_getElem?_getD]
    rw [List.getElem?_range (by omega)]
    rfl
theorem laws_markSpareS_k (a : List Spare) (k : Int) (h0 : 0 ≤ k) (h1 : k ≤ 1152921504606846976) (hl : a.length < 1099511627776) : (laws_markSpareS a k).1 = k + 3 * a.length := by
  rw [laws_markSpareS_eq a k h0 (by omega)]
theorem laws_heldSpareS_mark (a : List Spare) (k : Int) (h0 : 0 ≤ k) (hk : k ≤ 1152921504606846976) (h1 : a.length < 1099511627776) : laws_heldSpareS (laws_markSpareS a k).2 k = (laws_markSpareS a k).1 ∧ ¬ (laws_markSpareS a k).1 < 0 := by
  rw [laws_markSpareS_eq a k h0 (by omega)]
  refine ⟨?_, by simp only; omega⟩
  simp only
  unfold laws_heldSpareS
  obtain ⟨t, q1, q2⟩ := loopR_total (b := laws_heldSpareS_b1 ((List.range a.length).map (fun j : Nat => mkSpare (k + 3 * j))) k) (fun i s => s = k + 3 * (i : Int)) (k := ((List.range a.length).map (fun j : Nat => mkSpare (k + 3 * j))).length - 0) (i := 0) (s := k) (by simp) (by
    intro j u _ hj h2
    have hj2 : j < a.length := by simpa using hj
    have hg : ((List.range a.length).map (fun j : Nat => mkSpare (k + 3 * j))).getD j default = mkSpare (k + 3 * j) := by
      simp [List.getD_eq_getElem?_getD, hj2]
    subst h2
    refine ⟨k + 3 * ((j + 1 : Nat) : Int), ?_, rfl⟩
    have e1 : ∀ m : Int, 0 ≤ m → m < 4611686018427387904 → (m + 9223372036854775808) % 18446744073709551616 - 9223372036854775808 = m := by intro m _ _; omega
    simp only [laws_heldSpareS_b1]
    simp only [hg]
    simp only [mkSpare, IntKind.wrap_i64]
    (repeat rw [e1 _ (by omega) (by omega)])
    simp only [Int.add_assoc, Int.reduceAdd, bne_self_eq_false, cond_false, Except.ok.injEq]
    omega)
  rw [q1]
  simp only [q2]
  simp
end Go.Ab

namespace Go.Ab
open Go Go.Proofs
theorem laws_markStore_DD : DOk Try.prog (DD [(61, dM [true, false] D_laws_markEntryS), (98, dM [true, false] D_laws_markSpareS)]) := DD_cons D_laws_markEntryS_ok.e <| DD_cons D_laws_markSpareS_ok.e <| DD_nil _
def laws_markStore (a0 : Store) (a1 : Int) : Int × Store :=
  (((laws_markEntryS a0.Entries ((laws_markSpareS a0.Spares a1).1)).1), { a0 with Spares := (laws_markSpareS a0.Spares a1).2, Entries := (laws_markEntryS a0.Entries ((laws_markSpareS a0.Spares a1).1)).2 })
theorem laws_markStore_den (a0 : Store) (a1 : Int) (hp0 : 0 ≤ a1) (hp1 : a1 ≤ 1073741824) (hp2 : a0.Spares.length < 1099511627776) (hp3 : a0.Entries.length < 1099511627776) : DenM Try.prog 37 [.agg (eStoreO a0), .int .i64 a1] (.int .i64 ((laws_markStore a0 a1).1)) [(.agg [(ownL 63 3 eSpare (((laws_markStore a0 a1).2).Spares)), (ownL 66 3 eEntry (((laws_markStore a0 a1).2).Entries))]), .any] := by
  generalize hR : laws_markStore a0 a1 = r
  unfold laws_markStore at hR
  refine den_introM (gb := [true, false]) G_ok Try.func37 (by kernel_rfl) rfl Try.ntmps37 (by rw [Try.results37]) (by simp) ?_
  intro c hL hc hk
  obtain ⟨hL0, hL1, _⟩ := hL
  have hw0 : bwStore a0 := Store_lensO a0 hL0
  clear hL0 hL1
  simp only [adEL, adE, adRL, adR, ownL, encL, sv, List.nil_append, List.append_nil, List.cons_append, List.length_cons, List.length_nil, pars, Nat.zero_add, Nat.reduceAdd] at hk ⊢
  have hk1 := laws_markSpareS_k a0.Spares a1 hp0 (by omega) hp2
  refine AWP.seq ?_
  refine AWP.regS G_ok laws_markStore_DD hc (by kernel_rfl) (fun K hK => ?_); simp only [ea, absV, absVL, gv, sv, laws_markEntryS_sub, laws_markSpareS_sub, D_laws_markEntryS, D_laws_markSpareS, reduceCtorEq, reduceIte, Nat.reduceBEq, Nat.reduceAdd, Nat.reduceEqDiff, Nat.reduceLT, Nat.reduceLeDiff, Nat.reduceMul, Nat.reduceSub, BEq.rfl, beq_self_eq_true, Int.reduceToNat]
  (refine hK _ ?_)
  clear hK K
  refine AWP.seq ?_
  refine AWP.regS G_ok laws_markStore_DD hc (by kernel_rfl) (fun K hK => ?_); simp only [ea, absV, absVL, gv, sv, laws_markEntryS_sub, laws_markSpareS_sub, D_laws_markEntryS, D_laws_markSpareS, reduceCtorEq, reduceIte, Nat.reduceBEq, Nat.reduceAdd, Nat.reduceEqDiff, Nat.reduceLT, Nat.reduceLeDiff, Nat.reduceMul, Nat.reduceSub, BEq.rfl, beq_self_eq_true, Int.reduceToNat]
  (refine ⟨by (((try clear hK K); (repeat' (apply And.intro)) <;> first | trivial | omega)), hK _ ?_⟩)
  clear hK K
  refine AWP.seq ?_
  refine AWP.regS G_ok laws_markStore_DD hc (by kernel_rfl) (fun K hK => ?_); simp only [ea, absV, absVL, gv, sv, laws_markEntryS_sub, laws_markSpareS_sub, D_laws_markEntryS, D_laws_markSpareS, reduceCtorEq, reduceIte, Nat.reduceBEq, Nat.reduceAdd, Nat.reduceEqDiff, Nat.reduceLT, Nat.reduceLeDiff, Nat.reduceMul, Nat.reduceSub, BEq.rfl, beq_self_eq_true, Int.reduceToNat]
  (refine ⟨by (((try clear hK K); (repeat' (apply And.intro)) <;> first | trivial | omega)), hK _ ?_⟩)
  clear hK K
  refine AWP.seq ?_
  refine AWP.regS G_ok laws_markStore_DD hc (by kernel_rfl) (fun K hK => ?_); simp only [ea, absV, absVL, gv, sv, laws_markEntryS_sub, laws_markSpareS_sub, D_laws_markEntryS, D_laws_markSpareS, reduceCtorEq, reduceIte, Nat.reduceBEq, Nat.reduceAdd, Nat.reduceEqDiff, Nat.reduceLT, Nat.reduceLeDiff, Nat.reduceMul, Nat.reduceSub, BEq.rfl, beq_self_eq_true, Int.reduceToNat]
  (refine hK _ ?_)
  clear hK K
  refine AWP.ret ?_
  subst hR
  (simp only [en, si, ea, gv, sv, hk, reduceCtorEq, reduceIte, Nat.reduceBEq, Nat.reduceAdd, Nat.reduceEqDiff, Nat.reduceLT, Nat.reduceLeDiff, Nat.reduceMul, Nat.reduceSub, BEq.rfl, beq_self_eq_true, Int.reduceToNat]; (and_intros <;> (simp only [ob, ln, bdv, laws_markEntryS_len, laws_markSpareS_len, sv] at *; done)))
def D_laws_markStore : List AV → Option (AV × List AV × List Prop)
  | [x0, x1] => some (.int .i64 ((laws_markStore (rdG dStore x0) (rdI x1)).1), [(.agg [(ownL 63 3 eSpare (((laws_markStore (rdG dStore x0) (rdI x1)).2).Spares)), (ownL 66 3 eEntry (((laws_markStore (rdG dStore x0) (rdI x1)).2).Entries))]), .any], [wGO eStoreO dStore x0, wI .i64 x1, 0 ≤ (rdI x1), (rdI x1) ≤ 1073741824, (rdG dStore x0).Spares.length < 1099511627776, (rdG dStore x0).Entries.length < 1099511627776])
  | _ => none
theorem D_laws_markStore_ok : OkM Try.prog 37 D_laws_markStore := by
  intro xs r outs ob h ho
  unfold D_laws_markStore at h
  split at h
  · simp only [Option.some.injEq, Prod.mk.injEq] at h
    obtain ⟨rfl, rfl, rfl⟩ := h
    obtain ⟨h0, h1, hp0, hp1, hp2, hp3, _⟩ := ho
    exact DenM.sim (laws_markStore_den _ _ hp0 hp1 hp2 hp3) (simOL_cons (wGO_sim h0) <| simOL_cons (wI_sim h1).1 <| trivial)
  · cases h
end Go.Ab

namespace Go.Ab
open Go Go.Proofs
theorem loopR_keep {ρ σ : Type} {b : Nat → σ → Except ρ σ} (I : Nat → σ → Prop) : ∀ {k i : Nat} {s t : σ}, loopR b k i s = .ok t → I i s → (∀ j u v, i ≤ j → j < i + k → I j u → b j u = .ok v → I (j + 1) v) → I (i + k) t
  | 0, i, s, t, h, h0, _ => by simp only [loopR, Except.ok.injEq] at h; subst h; exact h0
  | k + 1, i, s, t, h, h0, hb => by
    simp only [loopR] at h
    cases hq : b i s with
    | error e => rw [hq] at h; simp at h
    | ok v =>
      rw [hq] at h
      have := loopR_keep I (k := k) (i := i + 1) h (hb i s v (Nat.le_refl _) (by omega) h0 hq) (fun j u v h1 h2 => hb j u v (by omega) (by omega))
      rw [show i + 1 + k = i + (k + 1) by omega] at this
      exact this
end Go.Ab

namespace Go.Ab
open Go Go.Proofs
theorem laws_heldSpareS_k (a : List Spare) (k : Int) (h0 : 0 ≤ k) (hk : k ≤ 1152921504606846976) (h1 : a.length < 1099511627776) : laws_heldSpareS a k < 0 ∨ (0 ≤ laws_heldSpareS a k ∧ laws_heldSpareS a k ≤ k + 3 * a.length) := by
  unfold laws_heldSpareS
  split
  · rename_i e he
    obtain ⟨j, t, g1, g2, g3⟩ := loopR_error he
    simp only [laws_heldSpareS_b1, Bool.cond_eq_ite] at g3
    left
    repeat' split at g3
    all_goals first | (cases g3; done) | (simp only [Except.error.injEq] at g3; omega) | (simp at g3)
  · rename_i s hs
    right
    have := loopR_keep (fun i s => 0 ≤ s ∧ s ≤ k + 3 * (i : Int)) hs (by simp; omega) (by
      intro j u v g1 g2 g3 g4
      simp only [laws_heldSpareS_b1, Bool.cond_eq_ite] at g4
      repeat' split at g4
      all_goals first | (cases g4; done) | (simp only [Except.ok.injEq, IntKind.wrap_i64] at g4; omega) | (simp at g4))
    simp at this
    omega
end Go.Ab

namespace Go.Ab
open Go Go.Proofs
theorem laws_heldStore_DD : DOk Try.prog (DD [(100, dP D_laws_heldEntryS), (99, dP D_laws_heldSpareS)]) := DD_cons D_laws_heldEntryS_ok.e <| DD_cons D_laws_heldSpareS_ok.e <| DD_nil _
def laws_heldStore (a0 : Store) (a1 : Int) : Int :=
  (bif decide ((laws_heldSpareS a0.Spares a1) < 0) then (-1) else (bif decide ((laws_heldEntryS a0.Entries (laws_heldSpareS a0.Spares a1)) < 0) then (-1) else (laws_heldEntryS a0.Entries (laws_heldSpareS a0.Spares a1))))
theorem laws_heldStore_den (a0 : Store) (a1 : Int) (hp0 : 0 ≤ a1) (hp1 : a1 ≤ 1073741824) (hp2 : a0.Spares.length < 1099511627776) (hp3 : a0.Entries.length < 1099511627776) : Den Try.prog 38 [.agg (eStore a0), .int .i64 a1] (.int .i64 (laws_heldStore a0 a1)) := by
  generalize hR : laws_heldStore a0 a1 = r
  unfold laws_heldStore at hR
  refine den_intro G_ok Try.func38 (by kernel_rfl) rfl Try.ntmps38 (by rw [Try.results38]) (by simp) rfl ?_
  intro c hL hc hk
  obtain ⟨hL0, hL1, _⟩ := hL
  have hw0 : bwStore a0 := Store_lens a0 hL0
  clear hL0 hL1
  simp only [pars, Nat.zero_add]
  have hk1 := laws_heldSpareS_k a0.Spares a1 hp0 (by omega) hp2
  refine AWP.seq ?_
  refine AWP.regS G_ok laws_heldStore_DD hc (by kernel_rfl) (fun K hK => ?_); simp only [ea, gv, sv, laws_markEntryS_sub, laws_markSpareS_sub, D_laws_heldEntryS, D_laws_heldSpareS, reduceCtorEq, reduceIte, Nat.reduceBEq, Nat.reduceAdd, Nat.reduceEqDiff, Nat.reduceLT, Nat.reduceLeDiff, Nat.reduceMul, Nat.reduceSub, BEq.rfl, beq_self_eq_true, Int.reduceToNat]
  (refine hK _ ?_)
  clear hK K
  refine AWP.seq ?_
  refine AWP.regS G_ok laws_heldStore_DD hc (by kernel_rfl) (fun K hK => ?_); simp only [ea, gv, sv, laws_markEntryS_sub, laws_markSpareS_sub, D_laws_heldEntryS, D_laws_heldSpareS, reduceCtorEq, reduceIte, Nat.reduceBEq, Nat.reduceAdd, Nat.reduceEqDiff, Nat.reduceLT, Nat.reduceLeDiff, Nat.reduceMul, Nat.reduceSub, BEq.rfl, beq_self_eq_true, Int.reduceToNat]
  (refine ⟨by (omega), hK _ ?_⟩)
  clear hK K
  refine AWP.seq ?_
  refine AWP.seq ?_
  refine AWP.regS G_ok laws_heldStore_DD hc (by kernel_rfl) (fun K hK => ?_); simp only [ea, gv, sv, laws_markEntryS_sub, laws_markSpareS_sub, D_laws_heldEntryS, D_laws_heldSpareS, reduceCtorEq, reduceIte, Nat.reduceBEq, Nat.reduceAdd, Nat.reduceEqDiff, Nat.reduceLT, Nat.reduceLeDiff, Nat.reduceMul, Nat.reduceSub, BEq.rfl, beq_self_eq_true, Int.reduceToNat]
  (refine hK _ ?_)
  clear hK K
  refine AWP.cond rfl (fun hb => ?_) (fun hb => ?_)
  · (simp only [hb, cond_true] at hR)
    refine AWP.seq ?_
    refine AWP.regS G_ok laws_heldStore_DD hc (by kernel_rfl) (fun K hK => ?_); simp only [ea, gv, sv, laws_markEntryS_sub, laws_markSpareS_sub, D_laws_heldEntryS, D_laws_heldSpareS, reduceCtorEq, reduceIte, Nat.reduceBEq, Nat.reduceAdd, Nat.reduceEqDiff, Nat.reduceLT, Nat.reduceLeDiff, Nat.reduceMul, Nat.reduceSub, BEq.rfl, beq_self_eq_true, Int.reduceToNat]
    (refine hK _ ?_)
    clear hK K
    refine AWP.ret ?_
    subst hR
    (simp only [en, si, ea, gv, sv, hk, reduceCtorEq, reduceIte, Nat.reduceBEq, Nat.reduceAdd, Nat.reduceEqDiff, Nat.reduceLT, Nat.reduceLeDiff, Nat.reduceMul, Nat.reduceSub, BEq.rfl, beq_self_eq_true, Int.reduceToNat]; done)
  · (simp only [hb, cond_false] at hR)
    refine AWP.skip ?_
    refine AWP.seq ?_
    refine AWP.regS G_ok laws_heldStore_DD hc (by kernel_rfl) (fun K hK => ?_); simp only [ea, gv, sv, laws_markEntryS_sub, laws_markSpareS_sub, D_laws_heldEntryS, D_laws_heldSpareS, reduceCtorEq, reduceIte, Nat.reduceBEq, Nat.reduceAdd, Nat.reduceEqDiff, Nat.reduceLT, Nat.reduceLeDiff, Nat.reduceMul, Nat.reduceSub, BEq.rfl, beq_self_eq_true, Int.reduceToNat]
    (refine ⟨by ((simp only [ob, ln, bdv, laws_markEntryS_len, laws_markSpareS_len, sv] at *; omega)), hK _ ?_⟩)
    clear hK K
    refine AWP.seq ?_
    refine AWP.seq ?_
    refine AWP.regS G_ok laws_heldStore_DD hc (by kernel_rfl) (fun K hK => ?_); simp only [ea, gv, sv, laws_markEntryS_sub, laws_markSpareS_sub, D_laws_heldEntryS, D_laws_heldSpareS, reduceCtorEq, reduceIte, Nat.reduceBEq, Nat.reduceAdd, Nat.reduceEqDiff, Nat.reduceLT, Nat.reduceLeDiff, Nat.reduceMul, Nat.reduceSub, BEq.rfl, beq_self_eq_true, Int.reduceToNat]
    (refine hK _ ?_)
    clear hK K
    refine AWP.cond rfl (fun hb => ?_) (fun hb => ?_)
    · (simp only [hb, cond_true] at hR)
      refine AWP.seq ?_
      refine AWP.regS G_ok laws_heldStore_DD hc (by kernel_rfl) (fun K hK => ?_); simp only [ea, gv, sv, laws_markEntryS_sub, laws_markSpareS_sub, D_laws_heldEntryS, D_laws_heldSpareS, reduceCtorEq, reduceIte, Nat.reduceBEq, Nat.reduceAdd, Nat.reduceEqDiff, Nat.reduceLT, Nat.reduceLeDiff, Nat.reduceMul, Nat.reduceSub, BEq.rfl, beq_self_eq_true, Int.reduceToNat]
      (refine hK _ ?_)
      clear hK K
      refine AWP.ret ?_
      subst hR
      (simp only [en, si, ea, gv, sv, hk, reduceCtorEq, reduceIte, Nat.reduceBEq, Nat.reduceAdd, Nat.reduceEqDiff, Nat.reduceLT, Nat.reduceLeDiff, Nat.reduceMul, Nat.reduceSub, BEq.rfl, beq_self_eq_true, Int.reduceToNat]; done)
    · (simp only [hb, cond_false] at hR)
      refine AWP.skip ?_
      refine AWP.seq ?_
      refine AWP.regS G_ok laws_heldStore_DD hc (by kernel_rfl) (fun K hK => ?_); simp only [ea, gv, sv, laws_markEntryS_sub, laws_markSpareS_sub, D_laws_heldEntryS, D_laws_heldSpareS, reduceCtorEq, reduceIte, Nat.reduceBEq, Nat.reduceAdd, Nat.reduceEqDiff, Nat.reduceLT, Nat.reduceLeDiff, Nat.reduceMul, Nat.reduceSub, BEq.rfl, beq_self_eq_true, Int.reduceToNat]
      (refine hK _ ?_)
      clear hK K
      refine AWP.ret ?_
      subst hR
      (simp only [en, si, ea, gv, sv, hk, reduceCtorEq, reduceIte, Nat.reduceBEq, Nat.reduceAdd, Nat.reduceEqDiff, Nat.reduceLT, Nat.reduceLeDiff, Nat.reduceMul, Nat.reduceSub, BEq.rfl, beq_self_eq_true, Int.reduceToNat]; done)
def D_laws_heldStore : DF
  | [x0, x1] => some (.int .i64 (laws_heldStore (rdG dStore x0) (rdI x1)), false, [wG eStore dStore x0, wI .i64 x1, 0 ≤ (rdI x1), (rdI x1) ≤ 1073741824, (rdG dStore x0).Spares.length < 1099511627776, (rdG dStore x0).Entries.length < 1099511627776])
  | _ => none
theorem D_laws_heldStore_ok : OkD Try.prog 38 D_laws_heldStore := by
  intro xs r z ob h ho
  unfold D_laws_heldStore at h
  split at h
  · simp only [Option.some.injEq, Prod.mk.injEq] at h
    obtain ⟨rfl, rfl, rfl⟩ := h
    obtain ⟨h0, h1, hp0, hp1, hp2, hp3, _⟩ := ho
    exact Den.sim (laws_heldStore_den _ _ hp0 hp1 hp2 hp3) (simOL_cons (wG_sim h0).1 <| simOL_cons (wI_sim h1).1 <| trivial) (noIdL_cons (wG_sim h0).2 <| noIdL_cons (wI_sim h1).2 <| rfl) rfl
  · cases h
end Go.Ab

namespace Go.Ab
open Go Go.Proofs
theorem laws_markStore_k (a : Store) (k : Int) (h0 : 0 ≤ k) (h1 : k ≤ 1073741824) (b1 : a.Spares.length < 1099511627776) (b2 : a.Entries.length < 1099511627776) : (laws_markStore a k).1 = k + 3 * a.Spares.length + 3 * a.Entries.length := by
  unfold laws_markStore
  simp only
  rw [laws_markEntryS_k _ _ (by rw [laws_markSpareS_k _ _ (by omega) (by omega) b1]; omega) (by rw [laws_markSpareS_k _ _ (by omega) (by omega) b1]; omega) b2, laws_markSpareS_k _ _ (by omega) (by omega) b1]
theorem laws_markStore_len (a : Store) (k : Int) : (laws_markStore a k).2.Spares.length = a.Spares.length ∧ (laws_markStore a k).2.Entries.length = a.Entries.length := by
  unfold laws_markStore
  simp only [laws_markSpareS_len, laws_markEntryS_len, and_self]
theorem laws_markStore_subS (a : Store) (k : Int) : subL (laws_markStore a k).2.Spares 0 a.Spares.length = (laws_markStore a k).2.Spares := by
  rw [← (laws_markStore_len a k).1]; exact subL_all _
theorem laws_markStore_subE (a : Store) (k : Int) : subL (laws_markStore a k).2.Entries 0 a.Entries.length = (laws_markStore a k).2.Entries := by
  rw [← (laws_markStore_len a k).2]; exact subL_all _
theorem laws_heldStore_mark (a : Store) (k : Int) (h0 : 0 ≤ k) (h1 : k ≤ 1073741824) (b1 : a.Spares.length < 1099511627776) (b2 : a.Entries.length < 1099511627776) : laws_heldStore (laws_markStore a k).2 k = (laws_markStore a k).1 ∧ ¬ (laws_markStore a k).1 < 0 := by
  have hk := laws_markStore_k a k h0 h1 b1 b2
  refine ⟨?_, by omega⟩
  rw [hk]
  have e1 := laws_heldSpareS_mark a.Spares k h0 (by omega) b1
  have e3 := laws_markSpareS_k a.Spares k h0 (by omega) b1
  have e2 := laws_heldEntryS_mark a.Entries (laws_markSpareS a.Spares k).1 (by omega) (by omega) b2
  have e4 := laws_markEntryS_k a.Entries (laws_markSpareS a.Spares k).1 (by omega) (by omega) b2
  unfold laws_heldStore laws_markStore
  simp only [e1.1, e2.1]
  rw [decide_eq_false e1.2, decide_eq_false e2.2]
  simp only [cond_false]
  omega
end Go.Ab
