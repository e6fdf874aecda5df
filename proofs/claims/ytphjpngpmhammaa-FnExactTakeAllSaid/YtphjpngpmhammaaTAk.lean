/- A part of a proof: walks of functions and lemmas of our own. No conditions. -/
import Derived.Test.YtphjpngpmhammaaTAj
import Derived.Test.YtphjpngpmhammaaTAh
set_option linter.unusedSectionVars false
set_option linter.unusedVariables false
set_option linter.unusedSimpArgs false
namespace Go.Ab
open Go Go.Proofs
theorem laws_toEntry_DD : DOk Try.prog (DD []) := DD_nil _
def laws_toEntry (a0 : Entry) : Entry :=
  { Day := a0.Day, Item := a0.Item, Amount := a0.Amount : Entry }
theorem laws_toEntry_den (a0 : Entry)  : Den Try.prog 55 [.agg (eEntry a0)] (.agg (eEntry (laws_toEntry a0))) := by
  generalize hR : laws_toEntry a0 = r
  unfold laws_toEntry at hR
  refine den_intro G_ok Try.func55 (by kernel_rfl) rfl Try.ntmps55 (by rw [Try.results55]) (by simp) rfl ?_
  intro c hL hc hk
  obtain ⟨hL0, _⟩ := hL
  have hw0 : bwEntry a0 := Entry_lens a0 hL0
  clear hL0
  simp only [pars, Nat.zero_add]
  refine AWP.seq ?_
  refine AWP.regS G_ok laws_toEntry_DD hc (by kernel_rfl) (fun K hK => ?_); simp only [ea, gv, sv, reduceCtorEq, reduceIte, Nat.reduceBEq, Nat.reduceAdd, Nat.reduceEqDiff, Nat.reduceLT, Nat.reduceLeDiff, Nat.reduceMul, Nat.reduceSub, BEq.rfl, beq_self_eq_true, Int.reduceToNat]
  (refine hK _ ?_)
  clear hK K
  refine AWP.seq ?_
  refine AWP.regS G_ok laws_toEntry_DD hc (by kernel_rfl) (fun K hK => ?_); simp only [ea, gv, sv, reduceCtorEq, reduceIte, Nat.reduceBEq, Nat.reduceAdd, Nat.reduceEqDiff, Nat.reduceLT, Nat.reduceLeDiff, Nat.reduceMul, Nat.reduceSub, BEq.rfl, beq_self_eq_true, Int.reduceToNat]
  (refine hK _ ?_)
  clear hK K
  refine AWP.seq ?_
  refine AWP.regS G_ok laws_toEntry_DD hc (by kernel_rfl) (fun K hK => ?_); simp only [ea, gv, sv, reduceCtorEq, reduceIte, Nat.reduceBEq, Nat.reduceAdd, Nat.reduceEqDiff, Nat.reduceLT, Nat.reduceLeDiff, Nat.reduceMul, Nat.reduceSub, BEq.rfl, beq_self_eq_true, Int.reduceToNat]
  (refine hK _ ?_)
  clear hK K
  refine AWP.seq ?_
  refine AWP.regS G_ok laws_toEntry_DD hc (by kernel_rfl) (fun K hK => ?_); simp only [ea, gv, sv, reduceCtorEq, reduceIte, Nat.reduceBEq, Nat.reduceAdd, Nat.reduceEqDiff, Nat.reduceLT, Nat.reduceLeDiff, Nat.reduceMul, Nat.reduceSub, BEq.rfl, beq_self_eq_true, Int.reduceToNat]
  (refine hK _ ?_)
  clear hK K
  refine AWP.seq ?_
  refine AWP.regS G_ok laws_toEntry_DD hc (by kernel_rfl) (fun K hK => ?_); simp only [ea, gv, sv, reduceCtorEq, reduceIte, Nat.reduceBEq, Nat.reduceAdd, Nat.reduceEqDiff, Nat.reduceLT, Nat.reduceLeDiff, Nat.reduceMul, Nat.reduceSub, BEq.rfl, beq_self_eq_true, Int.reduceToNat]
  (refine hK _ ?_)
  clear hK K
  refine AWP.seq ?_
  refine AWP.regS G_ok laws_toEntry_DD hc (by kernel_rfl) (fun K hK => ?_); simp only [ea, gv, sv, reduceCtorEq, reduceIte, Nat.reduceBEq, Nat.reduceAdd, Nat.reduceEqDiff, Nat.reduceLT, Nat.reduceLeDiff, Nat.reduceMul, Nat.reduceSub, BEq.rfl, beq_self_eq_true, Int.reduceToNat]
  (refine hK _ ?_)
  clear hK K
  refine AWP.ret ?_
  subst hR
  (simp only [en, si, ea, gv, sv, hk, reduceCtorEq, reduceIte, Nat.reduceBEq, Nat.reduceAdd, Nat.reduceEqDiff, Nat.reduceLT, Nat.reduceLeDiff, Nat.reduceMul, Nat.reduceSub, BEq.rfl, beq_self_eq_true, Int.reduceToNat]; done)
def D_laws_toEntry : DF
  | [x0] => some (.agg (eEntry (laws_toEntry (rdG dEntry x0))), false, [wG eEntry dEntry x0])
  | _ => none
theorem D_laws_toEntry_ok : OkD Try.prog 55 D_laws_toEntry := by
  intro xs r z ob h ho
  unfold D_laws_toEntry at h
  split at h
  · simp only [Option.some.injEq, Prod.mk.injEq] at h
    obtain ⟨rfl, rfl, rfl⟩ := h
    obtain ⟨h0, _⟩ := ho
    exact Den.sim (laws_toEntry_den _ ) (simOL_cons (wG_sim h0).1 <| trivial) (noIdL_cons (wG_sim h0).2 <| rfl) rfl
  · cases h
end Go.Ab

namespace Go.Ab
open Go Go.Proofs
theorem laws_toEntryS_DD : DOk Try.prog (DD [(55, dP D_laws_toEntry)]) := DD_cons D_laws_toEntry_ok.e <| DD_nil _
def laws_toEntryS_b1 (a0 : (List Entry)) (i1 : Nat) (s1 : List Entry) : Except ((List Entry)) (List Entry) :=
  .ok (s1.set i1 (laws_toEntry (a0.getD i1 default)))
def laws_toEntryS (a0 : (List Entry)) : (List Entry) :=
  (match loopR (laws_toEntryS_b1 a0) (a0.length - 0) 0 (List.replicate a0.length (default : Entry)) with | .error e => e | .ok s1 => s1)
theorem laws_toEntryS_den (a0 : (List Entry)) (hb0 : a0.length < 1099511627776) (hb1 : ∀ v ∈ a0, bdEntry v) : Den Try.prog 58 [encL 3 eEntry a0] (ownL 66 3 eEntry (laws_toEntryS a0)) := by
  generalize hR : laws_toEntryS a0 = r
  unfold laws_toEntryS at hR
  refine den_intro G_ok Try.func58 (by kernel_rfl) rfl Try.ntmps58 (by rw [Try.results58]) (by simp) rfl ?_
  intro c hL hc hk
  obtain ⟨hL0, _⟩ := hL
  have hw0 : a0.length < 9223372036854775808 := Nat.lt_succ_of_le (lens_encL hL0).1
  have hw1 : ∀ v ∈ a0, bwEntry v := fun v hv => Entry_lens v ((lens_encL hL0).2 v hv)
  clear hL0
  simp only [pars, Nat.zero_add]
  refine AWP.seq ?_
  refine AWP.regS G_ok laws_toEntryS_DD hc (by kernel_rfl) (fun K hK => ?_); simp only [ea, gv, sv, D_laws_toEntry, reduceCtorEq, reduceIte, Nat.reduceBEq, Nat.reduceAdd, Nat.reduceEqDiff, Nat.reduceLT, Nat.reduceLeDiff, Nat.reduceMul, Nat.reduceSub, BEq.rfl, beq_self_eq_true, Int.reduceToNat]
  (refine hK _ ?_)
  clear hK K
  refine AWP.seq ?_
  refine AWP.regS G_ok laws_toEntryS_DD hc (by kernel_rfl) (fun K hK => ?_); simp only [ea, gv, sv, D_laws_toEntry, reduceCtorEq, reduceIte, Nat.reduceBEq, Nat.reduceAdd, Nat.reduceEqDiff, Nat.reduceLT, Nat.reduceLeDiff, Nat.reduceMul, Nat.reduceSub, BEq.rfl, beq_self_eq_true, Int.reduceToNat]
  (refine ⟨by (omega), hK _ ?_⟩)
  clear hK K
  refine AWP.seq ?_
  refine AWP.seq ?_
  refine AWP.regS G_ok laws_toEntryS_DD hc (by kernel_rfl) (fun K hK => ?_); simp only [ea, gv, sv, D_laws_toEntry, reduceCtorEq, reduceIte, Nat.reduceBEq, Nat.reduceAdd, Nat.reduceEqDiff, Nat.reduceLT, Nat.reduceLeDiff, Nat.reduceMul, Nat.reduceSub, BEq.rfl, beq_self_eq_true, Int.reduceToNat]
  (refine hK _ ?_)
  clear hK K
  refine AWP.block ?_
  generalize hz1 : loopR (laws_toEntryS_b1 a0) (a0.length - 0) 0 (List.replicate a0.length (default : Entry)) = z1 at hR
  refine AWP.range (laws_toEntryS_b1 a0) (fun i1 s1 => ⟨[(0, encL 3 eEntry a0), (3, .ref 0 3 0 s1.length), (4, .int .i64 (i1 : Int))], [.arr 66 3 s1.length (fun j => eEntry (s1.getD j default))]⟩) (fun i1 s1 => s1.length = (List.replicate a0.length (default : Entry)).length) (a0.length) 0 (List.replicate a0.length (default : Entry)) [0] hz1 (by (omega)) (by (trivial)) (by (simp only [si, ea, gv, sv, hk, reduceCtorEq, reduceIte, Nat.reduceBEq, Nat.reduceAdd, Nat.reduceEqDiff, Nat.reduceLT, Nat.reduceLeDiff, Nat.reduceMul, Nat.reduceSub, BEq.rfl, beq_self_eq_true, Int.reduceToNat]; (and_intros <;> first | rfl | trivial | (simp only [ln]; done) | (intro j hj; simp only [pw, Bool.cond_eq_ite]; (repeat' split) <;> rfl)))) ?_
  clear hz1
  intro i1 s1 hi1 hW1 hz1
  refine AWP.seq ?_
  refine AWP.seq ?_
  refine AWP.regS G_ok laws_toEntryS_DD hc (by kernel_rfl) (fun K hK => ?_); simp only [ea, gv, sv, D_laws_toEntry, reduceCtorEq, reduceIte, Nat.reduceBEq, Nat.reduceAdd, Nat.reduceEqDiff, Nat.reduceLT, Nat.reduceLeDiff, Nat.reduceMul, Nat.reduceSub, BEq.rfl, beq_self_eq_true, Int.reduceToNat]
  (refine hK _ ?_)
  clear hK K
  refine AWP.cond rfl (fun hb => ?_) (fun hb => ?_)
  · have hlt1 : i1 < a0.length := by ((simp only [ob, ln, bdv, laws_toEntry, sv] at *; omega))
    rw [loopR_lt hlt1] at hz1; simp only [laws_toEntryS_b1] at hz1
    refine AWP.skip ?_
    refine AWP.seq ?_
    refine AWP.block ?_
    refine AWP.regS G_ok laws_toEntryS_DD hc (by kernel_rfl) (fun K hK => ?_); simp only [ea, gv, sv, D_laws_toEntry, reduceCtorEq, reduceIte, Nat.reduceBEq, Nat.reduceAdd, Nat.reduceEqDiff, Nat.reduceLT, Nat.reduceLeDiff, Nat.reduceMul, Nat.reduceSub, BEq.rfl, beq_self_eq_true, Int.reduceToNat]
    (refine ⟨by ((simp only [ob, ln, bdv, laws_toEntry, sv] at *; omega)), hK _ ?_⟩)
    clear hK K
    refine AWP.regS G_ok laws_toEntryS_DD hc (by kernel_rfl) (fun K hK => ?_); simp only [ea, gv, sv, D_laws_toEntry, reduceCtorEq, reduceIte, Nat.reduceBEq, Nat.reduceAdd, Nat.reduceEqDiff, Nat.reduceLT, Nat.reduceLeDiff, Nat.reduceMul, Nat.reduceSub, BEq.rfl, beq_self_eq_true, Int.reduceToNat]
    (refine hK _ ?_)
    clear hK K
    exact ⟨_, [0], hlt1, by ((and_intros <;> simp only [ob, ln, laws_toEntry] at * <;> omega)), hz1, by (simp only [si, ea, gv, sv, hk, reduceCtorEq, reduceIte, Nat.reduceBEq, Nat.reduceAdd, Nat.reduceEqDiff, Nat.reduceLT, Nat.reduceLeDiff, Nat.reduceMul, Nat.reduceSub, BEq.rfl, beq_self_eq_true, Int.reduceToNat]; (and_intros <;> first | trivial | (rw [IntKind.wrap_i64]; omega) | (simp only [ln]; done) | (simp only [ob, ln, bdv, laws_toEntry, sv] at *; grind)))⟩
  · obtain rfl : i1 = a0.length := by ((simp only [ob, ln, bdv, laws_toEntry, sv] at *; omega))
    rw [loopR_ge (Nat.le_refl _)] at hz1; subst hz1; dsimp only at hR
    refine AWP.exit ?_; refine exitTo_here ?_
    refine AWP.seq ?_
    refine AWP.regS G_ok laws_toEntryS_DD hc (by kernel_rfl) (fun K hK => ?_); simp only [ea, gv, sv, D_laws_toEntry, reduceCtorEq, reduceIte, Nat.reduceBEq, Nat.reduceAdd, Nat.reduceEqDiff, Nat.reduceLT, Nat.reduceLeDiff, Nat.reduceMul, Nat.reduceSub, BEq.rfl, beq_self_eq_true, Int.reduceToNat]
    (refine hK _ ?_)
    clear hK K
    refine AWP.ret ?_
    subst hR
    (simp only [en, si, ea, gv, sv, hk, reduceCtorEq, reduceIte, Nat.reduceBEq, Nat.reduceAdd, Nat.reduceEqDiff, Nat.reduceLT, Nat.reduceLeDiff, Nat.reduceMul, Nat.reduceSub, BEq.rfl, beq_self_eq_true, Int.reduceToNat]; (and_intros <;> omega))
def D_laws_toEntryS : DF
  | [x0] => some (ownL 66 3 eEntry (laws_toEntryS (rdL dEntry x0)), false, [wL 3 eEntry dEntry x0, (rdL dEntry x0).length < 1099511627776, ∀ v ∈ (rdL dEntry x0), bdEntry v])
  | _ => none
def Dz_laws_toEntryS : DF
  | [x0] => some (ownL 66 3 eEntry (laws_toEntryS (rdL dEntry x0)), true, [wL 3 eEntry dEntry x0, (rdL dEntry x0).length < 1099511627776, ∀ v ∈ (rdL dEntry x0), bdEntry v])
  | _ => none
theorem D_laws_toEntryS_ok : OkD Try.prog 58 D_laws_toEntryS := by
  intro xs r z ob h ho
  unfold D_laws_toEntryS at h
  split at h
  · simp only [Option.some.injEq, Prod.mk.injEq] at h
    obtain ⟨rfl, rfl, rfl⟩ := h
    obtain ⟨h0, hb0, hb1, _⟩ := ho
    exact Den.sim (laws_toEntryS_den _ hb0 hb1) (simOL_cons (wL_sim h0).1 <| trivial) (noIdL_cons (wL_sim h0).2 <| rfl) rfl
  · cases h
theorem Dz_laws_toEntryS_ok : OkD Try.prog 58 Dz_laws_toEntryS := by
  intro xs r z ob h ho
  unfold Dz_laws_toEntryS at h
  split at h
  · simp only [Option.some.injEq, Prod.mk.injEq] at h
    obtain ⟨rfl, rfl, rfl⟩ := h
    obtain ⟨h0, hb0, hb1, _⟩ := ho
    exact Den.sim (laws_toEntryS_den _ hb0 hb1) (simOL_cons (wL_sim h0).1 <| trivial) (noIdL_cons (wL_sim h0).2 <| rfl) rfl
  · cases h
end Go.Ab

namespace Go.Ab
open Go Go.Proofs
theorem laws_toSpare_DD : DOk Try.prog (DD []) := DD_nil _
def laws_toSpare (a0 : Spare) : Spare :=
  { Name := a0.Name, Least := a0.Least, Most := a0.Most : Spare }
theorem laws_toSpare_den (a0 : Spare)  : Den Try.prog 51 [.agg (eSpare a0)] (.agg (eSpare (laws_toSpare a0))) := by
  generalize hR : laws_toSpare a0 = r
  unfold laws_toSpare at hR
  refine den_intro G_ok Try.func51 (by kernel_rfl) rfl Try.ntmps51 (by rw [Try.results51]) (by simp) rfl ?_
  intro c hL hc hk
  obtain ⟨hL0, _⟩ := hL
  have hw0 : bwSpare a0 := Spare_lens a0 hL0
  clear hL0
  simp only [pars, Nat.zero_add]
  refine AWP.seq ?_
  refine AWP.regS G_ok laws_toSpare_DD hc (by kernel_rfl) (fun K hK => ?_); simp only [ea, gv, sv, reduceCtorEq, reduceIte, Nat.reduceBEq, Nat.reduceAdd, Nat.reduceEqDiff, Nat.reduceLT, Nat.reduceLeDiff, Nat.reduceMul, Nat.reduceSub, BEq.rfl, beq_self_eq_true, Int.reduceToNat]
  (refine hK _ ?_)
  clear hK K
  refine AWP.seq ?_
  refine AWP.regS G_ok laws_toSpare_DD hc (by kernel_rfl) (fun K hK => ?_); simp only [ea, gv, sv, reduceCtorEq, reduceIte, Nat.reduceBEq, Nat.reduceAdd, Nat.reduceEqDiff, Nat.reduceLT, Nat.reduceLeDiff, Nat.reduceMul, Nat.reduceSub, BEq.rfl, beq_self_eq_true, Int.reduceToNat]
  (refine hK _ ?_)
  clear hK K
  refine AWP.seq ?_
  refine AWP.regS G_ok laws_toSpare_DD hc (by kernel_rfl) (fun K hK => ?_); simp only [ea, gv, sv, reduceCtorEq, reduceIte, Nat.reduceBEq, Nat.reduceAdd, Nat.reduceEqDiff, Nat.reduceLT, Nat.reduceLeDiff, Nat.reduceMul, Nat.reduceSub, BEq.rfl, beq_self_eq_true, Int.reduceToNat]
  (refine hK _ ?_)
  clear hK K
  refine AWP.seq ?_
  refine AWP.regS G_ok laws_toSpare_DD hc (by kernel_rfl) (fun K hK => ?_); simp only [ea, gv, sv, reduceCtorEq, reduceIte, Nat.reduceBEq, Nat.reduceAdd, Nat.reduceEqDiff, Nat.reduceLT, Nat.reduceLeDiff, Nat.reduceMul, Nat.reduceSub, BEq.rfl, beq_self_eq_true, Int.reduceToNat]
  (refine hK _ ?_)
  clear hK K
  refine AWP.seq ?_
  refine AWP.regS G_ok laws_toSpare_DD hc (by kernel_rfl) (fun K hK => ?_); simp only [ea, gv, sv, reduceCtorEq, reduceIte, Nat.reduceBEq, Nat.reduceAdd, Nat.reduceEqDiff, Nat.reduceLT, Nat.reduceLeDiff, Nat.reduceMul, Nat.reduceSub, BEq.rfl, beq_self_eq_true, Int.reduceToNat]
  (refine hK _ ?_)
  clear hK K
  refine AWP.seq ?_
  refine AWP.regS G_ok laws_toSpare_DD hc (by kernel_rfl) (fun K hK => ?_); simp only [ea, gv, sv, reduceCtorEq, reduceIte, Nat.reduceBEq, Nat.reduceAdd, Nat.reduceEqDiff, Nat.reduceLT, Nat.reduceLeDiff, Nat.reduceMul, Nat.reduceSub, BEq.rfl, beq_self_eq_true, Int.reduceToNat]
  (refine hK _ ?_)
  clear hK K
  refine AWP.ret ?_
  subst hR
  (simp only [en, si, ea, gv, sv, hk, reduceCtorEq, reduceIte, Nat.reduceBEq, Nat.reduceAdd, Nat.reduceEqDiff, Nat.reduceLT, Nat.reduceLeDiff, Nat.reduceMul, Nat.reduceSub, BEq.rfl, beq_self_eq_true, Int.reduceToNat]; done)
def D_laws_toSpare : DF
  | [x0] => some (.agg (eSpare (laws_toSpare (rdG dSpare x0))), false, [wG eSpare dSpare x0])
  | _ => none
theorem D_laws_toSpare_ok : OkD Try.prog 51 D_laws_toSpare := by
  intro xs r z ob h ho
  unfold D_laws_toSpare at h
  split at h
  · simp only [Option.some.injEq, Prod.mk.injEq] at h
    obtain ⟨rfl, rfl, rfl⟩ := h
    obtain ⟨h0, _⟩ := ho
    exact Den.sim (laws_toSpare_den _ ) (simOL_cons (wG_sim h0).1 <| trivial) (noIdL_cons (wG_sim h0).2 <| rfl) rfl
  · cases h
end Go.Ab

namespace Go.Ab
open Go Go.Proofs
theorem laws_toSpareS_DD : DOk Try.prog (DD [(51, dP D_laws_toSpare)]) := DD_cons D_laws_toSpare_ok.e <| DD_nil _
def laws_toSpareS_b1 (a0 : (List Spare)) (i1 : Nat) (s1 : List Spare) : Except ((List Spare)) (List Spare) :=
  .ok (s1.set i1 (laws_toSpare (a0.getD i1 default)))
def laws_toSpareS (a0 : (List Spare)) : (List Spare) :=
  (match loopR (laws_toSpareS_b1 a0) (a0.length - 0) 0 (List.replicate a0.length (default : Spare)) with | .error e => e | .ok s1 => s1)
theorem laws_toSpareS_den (a0 : (List Spare)) (hb0 : a0.length < 1099511627776) (hb1 : ∀ v ∈ a0, bdSpare v) : Den Try.prog 64 [encL 3 eSpare a0] (ownL 63 3 eSpare (laws_toSpareS a0)) := by
  generalize hR : laws_toSpareS a0 = r
  unfold laws_toSpareS at hR
  refine den_intro G_ok Try.func64 (by kernel_rfl) rfl Try.ntmps64 (by rw [Try.results64]) (by simp) rfl ?_
  intro c hL hc hk
  obtain ⟨hL0, _⟩ := hL
  have hw0 : a0.length < 9223372036854775808 := Nat.lt_succ_of_le (lens_encL hL0).1
  have hw1 : ∀ v ∈ a0, bwSpare v := fun v hv => Spare_lens v ((lens_encL hL0).2 v hv)
  clear hL0
  simp only [pars, Nat.zero_add]
  refine AWP.seq ?_
  refine AWP.regS G_ok laws_toSpareS_DD hc (by kernel_rfl) (fun K hK => ?_); simp only [ea, gv, sv, D_laws_toSpare, reduceCtorEq, reduceIte, Nat.reduceBEq, Nat.reduceAdd, Nat.reduceEqDiff, Nat.reduceLT, Nat.reduceLeDiff, Nat.reduceMul, Nat.reduceSub, BEq.rfl, beq_self_eq_true, Int.reduceToNat]
  (refine hK _ ?_)
  clear hK K
  refine AWP.seq ?_
  refine AWP.regS G_ok laws_toSpareS_DD hc (by kernel_rfl) (fun K hK => ?_); simp only [ea, gv, sv, D_laws_toSpare, reduceCtorEq, reduceIte, Nat.reduceBEq, Nat.reduceAdd, Nat.reduceEqDiff, Nat.reduceLT, Nat.reduceLeDiff, Nat.reduceMul, Nat.reduceSub, BEq.rfl, beq_self_eq_true, Int.reduceToNat]
  (refine ⟨by (omega), hK _ ?_⟩)
  clear hK K
  refine AWP.seq ?_
  refine AWP.seq ?_
  refine AWP.regS G_ok laws_toSpareS_DD hc (by kernel_rfl) (fun K hK => ?_); simp only [ea, gv, sv, D_laws_toSpare, reduceCtorEq, reduceIte, Nat.reduceBEq, Nat.reduceAdd, Nat.reduceEqDiff, Nat.reduceLT, Nat.reduceLeDiff, Nat.reduceMul, Nat.reduceSub, BEq.rfl, beq_self_eq_true, Int.reduceToNat]
  (refine hK _ ?_)
  clear hK K
  refine AWP.block ?_
  generalize hz1 : loopR (laws_toSpareS_b1 a0) (a0.length - 0) 0 (List.replicate a0.length (default : Spare)) = z1 at hR
  refine AWP.range (laws_toSpareS_b1 a0) (fun i1 s1 => ⟨[(0, encL 3 eSpare a0), (3, .ref 0 3 0 s1.length), (4, .int .i64 (i1 : Int))], [.arr 63 3 s1.length (fun j => eSpare (s1.getD j default))]⟩) (fun i1 s1 => s1.length = (List.replicate a0.length (default : Spare)).length) (a0.length) 0 (List.replicate a0.length (default : Spare)) [0] hz1 (by (omega)) (by (trivial)) (by (simp only [si, ea, gv, sv, hk, reduceCtorEq, reduceIte, Nat.reduceBEq, Nat.reduceAdd, Nat.reduceEqDiff, Nat.reduceLT, Nat.reduceLeDiff, Nat.reduceMul, Nat.reduceSub, BEq.rfl, beq_self_eq_true, Int.reduceToNat]; (and_intros <;> first | rfl | trivial | (simp only [ln]; done) | (intro j hj; simp only [pw, Bool.cond_eq_ite]; (repeat' split) <;> rfl)))) ?_
  clear hz1
  intro i1 s1 hi1 hW1 hz1
  refine AWP.seq ?_
  refine AWP.seq ?_
  refine AWP.regS G_ok laws_toSpareS_DD hc (by kernel_rfl) (fun K hK => ?_); simp only [ea, gv, sv, D_laws_toSpare, reduceCtorEq, reduceIte, Nat.reduceBEq, Nat.reduceAdd, Nat.reduceEqDiff, Nat.reduceLT, Nat.reduceLeDiff, Nat.reduceMul, Nat.reduceSub, BEq.rfl, beq_self_eq_true, Int.reduceToNat]
  (refine hK _ ?_)
  clear hK K
  refine AWP.cond rfl (fun hb => ?_) (fun hb => ?_)
  · have hlt1 : i1 < a0.length := by ((simp only [ob, ln, bdv, laws_toSpare, sv] at *; omega))
    rw [loopR_lt hlt1] at hz1; simp only [laws_toSpareS_b1] at hz1
    refine AWP.skip ?_
    refine AWP.seq ?_
    refine AWP.block ?_
    refine AWP.regS G_ok laws_toSpareS_DD hc (by kernel_rfl) (fun K hK => ?_); simp only [ea, gv, sv, D_laws_toSpare, reduceCtorEq, reduceIte, Nat.reduceBEq, Nat.reduceAdd, Nat.reduceEqDiff, Nat.reduceLT, Nat.reduceLeDiff, Nat.reduceMul, Nat.reduceSub, BEq.rfl, beq_self_eq_true, Int.reduceToNat]
    (refine ⟨by ((simp only [ob, ln, bdv, laws_toSpare, sv] at *; omega)), hK _ ?_⟩)
    clear hK K
    refine AWP.regS G_ok laws_toSpareS_DD hc (by kernel_rfl) (fun K hK => ?_); simp only [ea, gv, sv, D_laws_toSpare, reduceCtorEq, reduceIte, Nat.reduceBEq, Nat.reduceAdd, Nat.reduceEqDiff, Nat.reduceLT, Nat.reduceLeDiff, Nat.reduceMul, Nat.reduceSub, BEq.rfl, beq_self_eq_true, Int.reduceToNat]
    (refine hK _ ?_)
    clear hK K
    exact ⟨_, [0], hlt1, by ((and_intros <;> simp only [ob, ln, laws_toSpare] at * <;> omega)), hz1, by (simp only [si, ea, gv, sv, hk, reduceCtorEq, reduceIte, Nat.reduceBEq, Nat.reduceAdd, Nat.reduceEqDiff, Nat.reduceLT, Nat.reduceLeDiff, Nat.reduceMul, Nat.reduceSub, BEq.rfl, beq_self_eq_true, Int.reduceToNat]; (and_intros <;> first | trivial | (rw [IntKind.wrap_i64]; omega) | (simp only [ln]; done) | (simp only [ob, ln, bdv, laws_toSpare, sv] at *; grind)))⟩
  · obtain rfl : i1 = a0.length := by ((simp only [ob, ln, bdv, laws_toSpare, sv] at *; omega))
    rw [loopR_ge (Nat.le_refl _)] at hz1; subst hz1; dsimp only at hR
    refine AWP.exit ?_; refine exitTo_here ?_
    refine AWP.seq ?_
    refine AWP.regS G_ok laws_toSpareS_DD hc (by kernel_rfl) (fun K hK => ?_); simp only [ea, gv, sv, D_laws_toSpare, reduceCtorEq, reduceIte, Nat.reduceBEq, Nat.reduceAdd, Nat.reduceEqDiff, Nat.reduceLT, Nat.reduceLeDiff, Nat.reduceMul, Nat.reduceSub, BEq.rfl, beq_self_eq_true, Int.reduceToNat]
    (refine hK _ ?_)
    clear hK K
    refine AWP.ret ?_
    subst hR
    (simp only [en, si, ea, gv, sv, hk, reduceCtorEq, reduceIte, Nat.reduceBEq, Nat.reduceAdd, Nat.reduceEqDiff, Nat.reduceLT, Nat.reduceLeDiff, Nat.reduceMul, Nat.reduceSub, BEq.rfl, beq_self_eq_true, Int.reduceToNat]; (and_intros <;> omega))
def D_laws_toSpareS : DF
  | [x0] => some (ownL 63 3 eSpare (laws_toSpareS (rdL dSpare x0)), false, [wL 3 eSpare dSpare x0, (rdL dSpare x0).length < 1099511627776, ∀ v ∈ (rdL dSpare x0), bdSpare v])
  | _ => none
def Dz_laws_toSpareS : DF
  | [x0] => some (ownL 63 3 eSpare (laws_toSpareS (rdL dSpare x0)), true, [wL 3 eSpare dSpare x0, (rdL dSpare x0).length < 1099511627776, ∀ v ∈ (rdL dSpare x0), bdSpare v])
  | _ => none
theorem D_laws_toSpareS_ok : OkD Try.prog 64 D_laws_toSpareS := by
  intro xs r z ob h ho
  unfold D_laws_toSpareS at h
  split at h
  · simp only [Option.some.injEq, Prod.mk.injEq] at h
    obtain ⟨rfl, rfl, rfl⟩ := h
    obtain ⟨h0, hb0, hb1, _⟩ := ho
    exact Den.sim (laws_toSpareS_den _ hb0 hb1) (simOL_cons (wL_sim h0).1 <| trivial) (noIdL_cons (wL_sim h0).2 <| rfl) rfl
  · cases h
theorem Dz_laws_toSpareS_ok : OkD Try.prog 64 Dz_laws_toSpareS := by
  intro xs r z ob h ho
  unfold Dz_laws_toSpareS at h
  split at h
  · simp only [Option.some.injEq, Prod.mk.injEq] at h
    obtain ⟨rfl, rfl, rfl⟩ := h
    obtain ⟨h0, hb0, hb1, _⟩ := ho
    exact Den.sim (laws_toSpareS_den _ hb0 hb1) (simOL_cons (wL_sim h0).1 <| trivial) (noIdL_cons (wL_sim h0).2 <| rfl) rfl
  · cases h
end Go.Ab

namespace Go.Ab
open Go Go.Proofs
theorem laws_toEntry_id (v : Entry) : laws_toEntry v = v := rfl
theorem laws_toEntryS_id (a : List Entry) : laws_toEntryS a = a := by
  unfold laws_toEntryS
  rw [loopR_fill (b := laws_toEntryS_b1 a) (fun i => laws_toEntry (a.getD i default)) (by simp) (fun i s _ => rfl)]
  simp only [laws_toEntry_id]
  exact range_getD a
end Go.Ab

namespace Go.Ab
open Go Go.Proofs
theorem laws_toSpare_id (v : Spare) : laws_toSpare v = v := rfl
theorem laws_toSpareS_id (a : List Spare) : laws_toSpareS a = a := by
  unfold laws_toSpareS
  rw [loopR_fill (b := laws_toSpareS_b1 a) (fun i => laws_toSpare (a.getD i default)) (by simp) (fun i s _ => rfl)]
  simp only [laws_toSpare_id]
  exact range_getD a
end Go.Ab

namespace Go.Ab
open Go Go.Proofs
theorem laws_toStore_DD : DOk Try.prog (DD [(58, dP D_laws_toEntryS), (64, dP D_laws_toSpareS)]) := DD_cons D_laws_toEntryS_ok.e <| DD_cons D_laws_toSpareS_ok.e <| DD_nil _
def laws_toStore (a0 : Store) : Store :=
  { Spares := (laws_toSpareS a0.Spares), Entries := (laws_toEntryS a0.Entries) : Store }
theorem laws_toStore_den (a0 : Store) (hb0 : bdStore a0) : Den Try.prog 17 [.agg (eStore a0)] (.agg (eStoreO (laws_toStore a0))) := by
  generalize hR : laws_toStore a0 = r
  unfold laws_toStore at hR
  refine den_intro G_ok Try.func17 (by kernel_rfl) rfl Try.ntmps17 (by rw [Try.results17]) (by simp) rfl ?_
  intro c hL hc hk
  obtain ⟨hL0, _⟩ := hL
  have hw0 : bwStore a0 := Store_lens a0 hL0
  clear hL0
  simp only [pars, Nat.zero_add]
  refine AWP.seq ?_
  refine AWP.regS G_ok laws_toStore_DD hc (by kernel_rfl) (fun K hK => ?_); simp only [ea, gv, sv, D_laws_toEntryS, D_laws_toSpareS, reduceCtorEq, reduceIte, Nat.reduceBEq, Nat.reduceAdd, Nat.reduceEqDiff, Nat.reduceLT, Nat.reduceLeDiff, Nat.reduceMul, Nat.reduceSub, BEq.rfl, beq_self_eq_true, Int.reduceToNat]
  (refine hK _ ?_)
  clear hK K
  refine AWP.seq ?_
  refine AWP.regS G_ok laws_toStore_DD hc (by kernel_rfl) (fun K hK => ?_); simp only [ea, gv, sv, D_laws_toEntryS, D_laws_toSpareS, reduceCtorEq, reduceIte, Nat.reduceBEq, Nat.reduceAdd, Nat.reduceEqDiff, Nat.reduceLT, Nat.reduceLeDiff, Nat.reduceMul, Nat.reduceSub, BEq.rfl, beq_self_eq_true, Int.reduceToNat]
  (refine hK _ ?_)
  clear hK K
  refine AWP.seq ?_
  refine AWP.regS G_ok laws_toStore_DD hc (by kernel_rfl) (fun K hK => ?_); simp only [ea, gv, sv, D_laws_toEntryS, D_laws_toSpareS, reduceCtorEq, reduceIte, Nat.reduceBEq, Nat.reduceAdd, Nat.reduceEqDiff, Nat.reduceLT, Nat.reduceLeDiff, Nat.reduceMul, Nat.reduceSub, BEq.rfl, beq_self_eq_true, Int.reduceToNat]
  (refine ⟨by (((try clear hK K); (repeat' first | apply And.intro | intro _) <;> (simp only [ob, ln, bdv, laws_toEntryS_id, laws_toSpareS_id, sv] at *; first | omega | (simp_all; done)))), hK _ ?_⟩)
  clear hK K
  refine AWP.seq ?_
  refine AWP.regS G_ok laws_toStore_DD hc (by kernel_rfl) (fun K hK => ?_); simp only [ea, gv, sv, D_laws_toEntryS, D_laws_toSpareS, reduceCtorEq, reduceIte, Nat.reduceBEq, Nat.reduceAdd, Nat.reduceEqDiff, Nat.reduceLT, Nat.reduceLeDiff, Nat.reduceMul, Nat.reduceSub, BEq.rfl, beq_self_eq_true, Int.reduceToNat]
  (refine ⟨by (((try clear hK K); (repeat' first | apply And.intro | intro _) <;> (simp only [ob, ln, bdv, laws_toEntryS_id, laws_toSpareS_id, sv] at *; first | omega | (simp_all; done)))), hK _ ?_⟩)
  clear hK K
  refine AWP.seq ?_
  refine AWP.regS G_ok laws_toStore_DD hc (by kernel_rfl) (fun K hK => ?_); simp only [ea, gv, sv, D_laws_toEntryS, D_laws_toSpareS, reduceCtorEq, reduceIte, Nat.reduceBEq, Nat.reduceAdd, Nat.reduceEqDiff, Nat.reduceLT, Nat.reduceLeDiff, Nat.reduceMul, Nat.reduceSub, BEq.rfl, beq_self_eq_true, Int.reduceToNat]
  (refine hK _ ?_)
  clear hK K
  refine AWP.ret ?_
  subst hR
  (simp only [en, si, ea, gv, sv, hk, reduceCtorEq, reduceIte, Nat.reduceBEq, Nat.reduceAdd, Nat.reduceEqDiff, Nat.reduceLT, Nat.reduceLeDiff, Nat.reduceMul, Nat.reduceSub, BEq.rfl, beq_self_eq_true, Int.reduceToNat]; (and_intros <;> omega))
def D_laws_toStore : DF
  | [x0] => some (.agg (eStoreO (laws_toStore (rdG dStore x0))), false, [wG eStore dStore x0, bdStore (rdG dStore x0)])
  | _ => none
def Dz_laws_toStore : DF
  | [x0] => some (.agg (eStoreO (laws_toStore (rdG dStore x0))), true, [wG eStore dStore x0, bdStore (rdG dStore x0)])
  | _ => none
theorem D_laws_toStore_ok : OkD Try.prog 17 D_laws_toStore := by
  intro xs r z ob h ho
  unfold D_laws_toStore at h
  split at h
  · simp only [Option.some.injEq, Prod.mk.injEq] at h
    obtain ⟨rfl, rfl, rfl⟩ := h
    obtain ⟨h0, hb0, _⟩ := ho
    exact Den.sim (laws_toStore_den _ hb0) (simOL_cons (wG_sim h0).1 <| trivial) (noIdL_cons (wG_sim h0).2 <| rfl) rfl
  · cases h
theorem Dz_laws_toStore_ok : OkD Try.prog 17 Dz_laws_toStore := by
  intro xs r z ob h ho
  unfold Dz_laws_toStore at h
  split at h
  · simp only [Option.some.injEq, Prod.mk.injEq] at h
    obtain ⟨rfl, rfl, rfl⟩ := h
    obtain ⟨h0, hb0, _⟩ := ho
    exact Den.sim (laws_toStore_den _ hb0) (simOL_cons (wG_sim h0).1 <| trivial) (noIdL_cons (wG_sim h0).2 <| rfl) rfl
  · cases h
end Go.Ab

namespace Go.Ab
open Go Go.Proofs
theorem laws_toStore_id (a : Store) : laws_toStore a = a := by
  unfold laws_toStore
  simp only [laws_toSpareS_id, laws_toEntryS_id]
end Go.Ab

namespace Go.Ab
open Go Go.Proofs
theorem laws_szEntry_DD : DOk Try.prog (DD []) := DD_nil _
def laws_szEntry (a0 : Entry) (a1 : Int) : Int :=
  (bif decide ((IntKind.wrap .i64 (a1 - (a0.Item.length : Int))) < 0) then (-1) else IntKind.wrap .i64 (a1 - (a0.Item.length : Int)))
theorem laws_szEntry_den (a0 : Entry) (a1 : Int) (hp0 : -1 ≤ a1) (hp1 : a1 ≤ 1048576) : Den Try.prog 53 [.agg (eEntry a0), .int .i64 a1] (.int .i64 (laws_szEntry a0 a1)) := by
  generalize hR : laws_szEntry a0 a1 = r
  unfold laws_szEntry at hR
  refine den_intro G_ok Try.func53 (by kernel_rfl) rfl Try.ntmps53 (by rw [Try.results53]) (by simp) rfl ?_
  intro c hL hc hk
  obtain ⟨hL0, hL1, _⟩ := hL
  have hw0 : bwEntry a0 := Entry_lens a0 hL0
  clear hL0 hL1
  simp only [pars, Nat.zero_add]
  refine AWP.seq ?_
  refine AWP.regS G_ok laws_szEntry_DD hc (by kernel_rfl) (fun K hK => ?_); simp only [ea, gv, sv, reduceCtorEq, reduceIte, Nat.reduceBEq, Nat.reduceAdd, Nat.reduceEqDiff, Nat.reduceLT, Nat.reduceLeDiff, Nat.reduceMul, Nat.reduceSub, BEq.rfl, beq_self_eq_true, Int.reduceToNat]
  (refine hK _ ?_)
  clear hK K
  refine AWP.seq ?_
  refine AWP.regS G_ok laws_szEntry_DD hc (by kernel_rfl) (fun K hK => ?_); simp only [ea, gv, sv, reduceCtorEq, reduceIte, Nat.reduceBEq, Nat.reduceAdd, Nat.reduceEqDiff, Nat.reduceLT, Nat.reduceLeDiff, Nat.reduceMul, Nat.reduceSub, BEq.rfl, beq_self_eq_true, Int.reduceToNat]
  (refine hK _ ?_)
  clear hK K
  refine AWP.seq ?_
  refine AWP.seq ?_
  refine AWP.regS G_ok laws_szEntry_DD hc (by kernel_rfl) (fun K hK => ?_); simp only [ea, gv, sv, reduceCtorEq, reduceIte, Nat.reduceBEq, Nat.reduceAdd, Nat.reduceEqDiff, Nat.reduceLT, Nat.reduceLeDiff, Nat.reduceMul, Nat.reduceSub, BEq.rfl, beq_self_eq_true, Int.reduceToNat]
  (refine hK _ ?_)
  clear hK K
  refine AWP.cond rfl (fun hb => ?_) (fun hb => ?_)
  · (simp only [hb, cond_true] at hR)
    refine AWP.seq ?_
    refine AWP.regS G_ok laws_szEntry_DD hc (by kernel_rfl) (fun K hK => ?_); simp only [ea, gv, sv, reduceCtorEq, reduceIte, Nat.reduceBEq, Nat.reduceAdd, Nat.reduceEqDiff, Nat.reduceLT, Nat.reduceLeDiff, Nat.reduceMul, Nat.reduceSub, BEq.rfl, beq_self_eq_true, Int.reduceToNat]
    (refine hK _ ?_)
    clear hK K
    refine AWP.ret ?_
    subst hR
    (simp only [en, si, ea, gv, sv, hk, reduceCtorEq, reduceIte, Nat.reduceBEq, Nat.reduceAdd, Nat.reduceEqDiff, Nat.reduceLT, Nat.reduceLeDiff, Nat.reduceMul, Nat.reduceSub, BEq.rfl, beq_self_eq_true, Int.reduceToNat]; done)
  · (simp only [hb, cond_false] at hR)
    refine AWP.skip ?_
    refine AWP.seq ?_
    refine AWP.regS G_ok laws_szEntry_DD hc (by kernel_rfl) (fun K hK => ?_); simp only [ea, gv, sv, reduceCtorEq, reduceIte, Nat.reduceBEq, Nat.reduceAdd, Nat.reduceEqDiff, Nat.reduceLT, Nat.reduceLeDiff, Nat.reduceMul, Nat.reduceSub, BEq.rfl, beq_self_eq_true, Int.reduceToNat]
    (refine hK _ ?_)
    clear hK K
    refine AWP.ret ?_
    subst hR
    (simp only [en, si, ea, gv, sv, hk, reduceCtorEq, reduceIte, Nat.reduceBEq, Nat.reduceAdd, Nat.reduceEqDiff, Nat.reduceLT, Nat.reduceLeDiff, Nat.reduceMul, Nat.reduceSub, BEq.rfl, beq_self_eq_true, Int.reduceToNat]; done)
def D_laws_szEntry : DF
  | [x0, x1] => some (.int .i64 (laws_szEntry (rdG dEntry x0) (rdI x1)), false, [wG eEntry dEntry x0, wI .i64 x1, -1 ≤ (rdI x1), (rdI x1) ≤ 1048576])
  | _ => none
theorem D_laws_szEntry_ok : OkD Try.prog 53 D_laws_szEntry := by
  intro xs r z ob h ho
  unfold D_laws_szEntry at h
  split at h
  · simp only [Option.some.injEq, Prod.mk.injEq] at h
    obtain ⟨rfl, rfl, rfl⟩ := h
    obtain ⟨h0, h1, hp0, hp1, _⟩ := ho
    exact Den.sim (laws_szEntry_den _ _ hp0 hp1) (simOL_cons (wG_sim h0).1 <| simOL_cons (wI_sim h1).1 <| trivial) (noIdL_cons (wG_sim h0).2 <| noIdL_cons (wI_sim h1).2 <| rfl) rfl
  · cases h
end Go.Ab

namespace Go.Ab
open Go Go.Proofs
theorem laws_szEntry_le (x : Entry) (n : Int) (h0 : -1 ≤ n) (h1 : n ≤ 1048576) (hx : bwEntry x) : -1 ≤ laws_szEntry x n ∧ laws_szEntry x n ≤ n := by
  have hx2 : x.Item.length < 9223372036854775808 := hx
  unfold laws_szEntry
  rw [IntKind.wrap_i64]
  cases hd : decide ((n - (x.Item.length : Int) + 9223372036854775808) % 18446744073709551616 - 9223372036854775808 < 0) with
  | true => simp; omega
  | false =>
    simp only [cond_false]
    have := of_decide_eq_false hd
    omega
theorem laws_szEntry_bd (x : Entry) (n : Int) (h0 : -1 ≤ n) (h1 : n ≤ 1048576) (hx : bwEntry x) (h : ¬ laws_szEntry x n < 0) : bdEntry x := by
  have hx2 : x.Item.length < 9223372036854775808 := hx
  unfold laws_szEntry at h
  rw [IntKind.wrap_i64] at h
  cases hd : decide ((n - (x.Item.length : Int) + 9223372036854775808) % 18446744073709551616 - 9223372036854775808 < 0) with
  | true => rw [hd] at h; simp at h
  | false =>
    have := of_decide_eq_false hd
    show x.Item.length < 1099511627776
    omega
theorem laws_szEntry_facts (x : Entry) (n : Int) (h0 : -1 ≤ n) (h1 : n ≤ 1048576) (hx : bwEntry x) : -1 ≤ laws_szEntry x n ∧ laws_szEntry x n ≤ n ∧ (¬ laws_szEntry x n < 0 → bdEntry x) :=
  ⟨(laws_szEntry_le x n h0 h1 hx).1, (laws_szEntry_le x n h0 h1 hx).2, laws_szEntry_bd x n h0 h1 hx⟩
end Go.Ab

namespace Go.Ab
open Go Go.Proofs
theorem laws_szEntryS_DD : DOk Try.prog (DD [(53, dP D_laws_szEntry)]) := DD_cons D_laws_szEntry_ok.e <| DD_nil _
def laws_szEntryS_b1 (a0 : (List Entry)) (a1 : Int) (i1 : Nat) (s1 : Int) : Except (Int) (Int) :=
  (bif decide ((laws_szEntry (a0.getD i1 default) s1) < 0) then .error (-1) else .ok (laws_szEntry (a0.getD i1 default) s1))
def laws_szEntryS (a0 : (List Entry)) (a1 : Int) : Int :=
  (bif decide ((IntKind.wrap .i64 (a1 - (a0.length : Int))) < 0) then (-1) else (match loopR (laws_szEntryS_b1 a0 a1) (a0.length - 0) 0 (IntKind.wrap .i64 (a1 - (a0.length : Int))) with | .error e => e | .ok s1 => s1))
theorem laws_szEntryS_den (a0 : (List Entry)) (a1 : Int) (hp0 : -1 ≤ a1) (hp1 : a1 ≤ 1048576) : Den Try.prog 56 [encL 3 eEntry a0, .int .i64 a1] (.int .i64 (laws_szEntryS a0 a1)) := by
  generalize hR : laws_szEntryS a0 a1 = r
  unfold laws_szEntryS at hR
  refine den_intro G_ok Try.func56 (by kernel_rfl) rfl Try.ntmps56 (by rw [Try.results56]) (by simp) rfl ?_
  intro c hL hc hk
  obtain ⟨hL0, hL1, _⟩ := hL
  have hw0 : a0.length < 9223372036854775808 := Nat.lt_succ_of_le (lens_encL hL0).1
  have hw1 : ∀ v ∈ a0, bwEntry v := fun v hv => Entry_lens v ((lens_encL hL0).2 v hv)
  clear hL0 hL1
  simp only [pars, Nat.zero_add]
  refine AWP.seq ?_
  refine AWP.regS G_ok laws_szEntryS_DD hc (by kernel_rfl) (fun K hK => ?_); simp only [ea, gv, sv, D_laws_szEntry, reduceCtorEq, reduceIte, Nat.reduceBEq, Nat.reduceAdd, Nat.reduceEqDiff, Nat.reduceLT, Nat.reduceLeDiff, Nat.reduceMul, Nat.reduceSub, BEq.rfl, beq_self_eq_true, Int.reduceToNat]
  (refine hK _ ?_)
  clear hK K
  refine AWP.seq ?_
  refine AWP.regS G_ok laws_szEntryS_DD hc (by kernel_rfl) (fun K hK => ?_); simp only [ea, gv, sv, D_laws_szEntry, reduceCtorEq, reduceIte, Nat.reduceBEq, Nat.reduceAdd, Nat.reduceEqDiff, Nat.reduceLT, Nat.reduceLeDiff, Nat.reduceMul, Nat.reduceSub, BEq.rfl, beq_self_eq_true, Int.reduceToNat]
  (refine hK _ ?_)
  clear hK K
  refine AWP.seq ?_
  refine AWP.seq ?_
  refine AWP.regS G_ok laws_szEntryS_DD hc (by kernel_rfl) (fun K hK => ?_); simp only [ea, gv, sv, D_laws_szEntry, reduceCtorEq, reduceIte, Nat.reduceBEq, Nat.reduceAdd, Nat.reduceEqDiff, Nat.reduceLT, Nat.reduceLeDiff, Nat.reduceMul, Nat.reduceSub, BEq.rfl, beq_self_eq_true, Int.reduceToNat]
  (refine hK _ ?_)
  clear hK K
  refine AWP.cond rfl (fun hb => ?_) (fun hb => ?_)
  · (simp only [hb, cond_true] at hR)
    refine AWP.seq ?_
    refine AWP.regS G_ok laws_szEntryS_DD hc (by kernel_rfl) (fun K hK => ?_); simp only [ea, gv, sv, D_laws_szEntry, reduceCtorEq, reduceIte, Nat.reduceBEq, Nat.reduceAdd, Nat.reduceEqDiff, Nat.reduceLT, Nat.reduceLeDiff, Nat.reduceMul, Nat.reduceSub, BEq.rfl, beq_self_eq_true, Int.reduceToNat]
    (refine hK _ ?_)
    clear hK K
    refine AWP.ret ?_
    subst hR
    (simp only [en, si, ea, gv, sv, hk, reduceCtorEq, reduceIte, Nat.reduceBEq, Nat.reduceAdd, Nat.reduceEqDiff, Nat.reduceLT, Nat.reduceLeDiff, Nat.reduceMul, Nat.reduceSub, BEq.rfl, beq_self_eq_true, Int.reduceToNat]; done)
  · (simp only [hb, cond_false] at hR)
    refine AWP.skip ?_
    refine AWP.seq ?_
    refine AWP.seq ?_
    refine AWP.regS G_ok laws_szEntryS_DD hc (by kernel_rfl) (fun K hK => ?_); simp only [ea, gv, sv, D_laws_szEntry, reduceCtorEq, reduceIte, Nat.reduceBEq, Nat.reduceAdd, Nat.reduceEqDiff, Nat.reduceLT, Nat.reduceLeDiff, Nat.reduceMul, Nat.reduceSub, BEq.rfl, beq_self_eq_true, Int.reduceToNat]
    (refine hK _ ?_)
    clear hK K
    refine AWP.block ?_
    generalize hz1 : loopR (laws_szEntryS_b1 a0 a1) (a0.length - 0) 0 (IntKind.wrap .i64 (a1 - (a0.length : Int))) = z1 at hR
    refine AWP.range (laws_szEntryS_b1 a0 a1) (fun i1 s1 => ⟨[(0, encL 3 eEntry a0), (1, .int .i64 s1), (5, .int .i64 (i1 : Int))], []⟩) (fun i1 s1 => -1 ≤ s1 ∧ s1 ≤ 1048576) (a0.length) 0 (IntKind.wrap .i64 (a1 - (a0.length : Int))) [] hz1 (by (omega)) (by ((and_intros <;> simp only [ob, ln] at * <;> omega))) (by (simp only [si, ea, gv, sv, hk, reduceCtorEq, reduceIte, Nat.reduceBEq, Nat.reduceAdd, Nat.reduceEqDiff, Nat.reduceLT, Nat.reduceLeDiff, Nat.reduceMul, Nat.reduceSub, BEq.rfl, beq_self_eq_true, Int.reduceToNat]; trivial)) ?_
    clear hz1
    intro i1 s1 hi1 hW1 hz1
    refine AWP.seq ?_
    refine AWP.seq ?_
    refine AWP.regS G_ok laws_szEntryS_DD hc (by kernel_rfl) (fun K hK => ?_); simp only [ea, gv, sv, D_laws_szEntry, reduceCtorEq, reduceIte, Nat.reduceBEq, Nat.reduceAdd, Nat.reduceEqDiff, Nat.reduceLT, Nat.reduceLeDiff, Nat.reduceMul, Nat.reduceSub, BEq.rfl, beq_self_eq_true, Int.reduceToNat]
    (refine hK _ ?_)
    clear hK K
    refine AWP.cond rfl (fun hb => ?_) (fun hb => ?_)
    · have hlt1 : i1 < a0.length := by ((simp only [ob, ln, bdv, sv] at *; omega))
      rw [loopR_lt hlt1] at hz1; simp only [laws_szEntryS_b1] at hz1
      refine AWP.skip ?_
      refine AWP.seq ?_
      refine AWP.block ?_
      refine AWP.seq ?_
      refine AWP.regS G_ok laws_szEntryS_DD hc (by kernel_rfl) (fun K hK => ?_); simp only [ea, gv, sv, D_laws_szEntry, reduceCtorEq, reduceIte, Nat.reduceBEq, Nat.reduceAdd, Nat.reduceEqDiff, Nat.reduceLT, Nat.reduceLeDiff, Nat.reduceMul, Nat.reduceSub, BEq.rfl, beq_self_eq_true, Int.reduceToNat]
      (refine ⟨by (omega), hK _ ?_⟩)
      clear hK K
      refine AWP.seq ?_
      refine AWP.regS G_ok laws_szEntryS_DD hc (by kernel_rfl) (fun K hK => ?_); simp only [ea, gv, sv, D_laws_szEntry, reduceCtorEq, reduceIte, Nat.reduceBEq, Nat.reduceAdd, Nat.reduceEqDiff, Nat.reduceLT, Nat.reduceLeDiff, Nat.reduceMul, Nat.reduceSub, BEq.rfl, beq_self_eq_true, Int.reduceToNat]
      (refine hK _ ?_)
      clear hK K
      refine AWP.cond rfl (fun hb => ?_) (fun hb => ?_)
      · (simp only [hb, cond_true] at hz1)
        refine AWP.seq ?_
        refine AWP.regS G_ok laws_szEntryS_DD hc (by kernel_rfl) (fun K hK => ?_); simp only [ea, gv, sv, D_laws_szEntry, reduceCtorEq, reduceIte, Nat.reduceBEq, Nat.reduceAdd, Nat.reduceEqDiff, Nat.reduceLT, Nat.reduceLeDiff, Nat.reduceMul, Nat.reduceSub, BEq.rfl, beq_self_eq_true, Int.reduceToNat]
        (refine hK _ ?_)
        clear hK K
        refine AWP.ret ?_
        subst hz1
        dsimp only at hR
        subst hR
        (simp only [en, si, ea, gv, sv, hk, reduceCtorEq, reduceIte, Nat.reduceBEq, Nat.reduceAdd, Nat.reduceEqDiff, Nat.reduceLT, Nat.reduceLeDiff, Nat.reduceMul, Nat.reduceSub, BEq.rfl, beq_self_eq_true, Int.reduceToNat]; done)
      · (simp only [hb, cond_false] at hz1)
        refine AWP.skip ?_
        refine AWP.regS G_ok laws_szEntryS_DD hc (by kernel_rfl) (fun K hK => ?_); simp only [ea, gv, sv, D_laws_szEntry, reduceCtorEq, reduceIte, Nat.reduceBEq, Nat.reduceAdd, Nat.reduceEqDiff, Nat.reduceLT, Nat.reduceLeDiff, Nat.reduceMul, Nat.reduceSub, BEq.rfl, beq_self_eq_true, Int.reduceToNat]
        (refine hK _ ?_)
        clear hK K
        exact ⟨_, [], hlt1, by (have h9 := laws_szEntry_le (a0.getD i1 default) s1 (by omega) (by omega) (bd_getD (by assumption) (by decide) _); simp only [ob] at hb; omega), hz1, by (simp only [si, ea, gv, sv, hk, reduceCtorEq, reduceIte, Nat.reduceBEq, Nat.reduceAdd, Nat.reduceEqDiff, Nat.reduceLT, Nat.reduceLeDiff, Nat.reduceMul, Nat.reduceSub, BEq.rfl, beq_self_eq_true, Int.reduceToNat]; (and_intros <;> first | trivial | (rw [IntKind.wrap_i64]; omega)))⟩
    · obtain rfl : i1 = a0.length := by ((simp only [ob, ln, bdv, sv] at *; omega))
      rw [loopR_ge (Nat.le_refl _)] at hz1; subst hz1; dsimp only at hR
      refine AWP.exit ?_; refine exitTo_here ?_
      refine AWP.seq ?_
      refine AWP.regS G_ok laws_szEntryS_DD hc (by kernel_rfl) (fun K hK => ?_); simp only [ea, gv, sv, D_laws_szEntry, reduceCtorEq, reduceIte, Nat.reduceBEq, Nat.reduceAdd, Nat.reduceEqDiff, Nat.reduceLT, Nat.reduceLeDiff, Nat.reduceMul, Nat.reduceSub, BEq.rfl, beq_self_eq_true, Int.reduceToNat]
      (refine hK _ ?_)
      clear hK K
      refine AWP.ret ?_
      subst hR
      (simp only [en, si, ea, gv, sv, hk, reduceCtorEq, reduceIte, Nat.reduceBEq, Nat.reduceAdd, Nat.reduceEqDiff, Nat.reduceLT, Nat.reduceLeDiff, Nat.reduceMul, Nat.reduceSub, BEq.rfl, beq_self_eq_true, Int.reduceToNat]; done)
def D_laws_szEntryS : DF
  | [x0, x1] => some (.int .i64 (laws_szEntryS (rdL dEntry x0) (rdI x1)), false, [wL 3 eEntry dEntry x0, wI .i64 x1, -1 ≤ (rdI x1), (rdI x1) ≤ 1048576])
  | _ => none
theorem D_laws_szEntryS_ok : OkD Try.prog 56 D_laws_szEntryS := by
  intro xs r z ob h ho
  unfold D_laws_szEntryS at h
  split at h
  · simp only [Option.some.injEq, Prod.mk.injEq] at h
    obtain ⟨rfl, rfl, rfl⟩ := h
    obtain ⟨h0, h1, hp0, hp1, _⟩ := ho
    exact Den.sim (laws_szEntryS_den _ _ hp0 hp1) (simOL_cons (wL_sim h0).1 <| simOL_cons (wI_sim h1).1 <| trivial) (noIdL_cons (wL_sim h0).2 <| noIdL_cons (wI_sim h1).2 <| rfl) rfl
  · cases h
end Go.Ab

namespace Go.Ab
open Go Go.Proofs
theorem laws_szSpare_DD : DOk Try.prog (DD []) := DD_nil _
def laws_szSpare (a0 : Spare) (a1 : Int) : Int :=
  (bif decide ((IntKind.wrap .i64 (a1 - (a0.Name.length : Int))) < 0) then (-1) else IntKind.wrap .i64 (a1 - (a0.Name.length : Int)))
theorem laws_szSpare_den (a0 : Spare) (a1 : Int) (hp0 : -1 ≤ a1) (hp1 : a1 ≤ 1048576) : Den Try.prog 49 [.agg (eSpare a0), .int .i64 a1] (.int .i64 (laws_szSpare a0 a1)) := by
  generalize hR : laws_szSpare a0 a1 = r
  unfold laws_szSpare at hR
  refine den_intro G_ok Try.func49 (by kernel_rfl) rfl Try.ntmps49 (by rw [Try.results49]) (by simp) rfl ?_
  intro c hL hc hk
  obtain ⟨hL0, hL1, _⟩ := hL
  have hw0 : bwSpare a0 := Spare_lens a0 hL0
  clear hL0 hL1
  simp only [pars, Nat.zero_add]
  refine AWP.seq ?_
  refine AWP.regS G_ok laws_szSpare_DD hc (by kernel_rfl) (fun K hK => ?_); simp only [ea, gv, sv, reduceCtorEq, reduceIte, Nat.reduceBEq, Nat.reduceAdd, Nat.reduceEqDiff, Nat.reduceLT, Nat.reduceLeDiff, Nat.reduceMul, Nat.reduceSub, BEq.rfl, beq_self_eq_true, Int.reduceToNat]
  (refine hK _ ?_)
  clear hK K
  refine AWP.seq ?_
  refine AWP.regS G_ok laws_szSpare_DD hc (by kernel_rfl) (fun K hK => ?_); simp only [ea, gv, sv, reduceCtorEq, reduceIte, Nat.reduceBEq, Nat.reduceAdd, Nat.reduceEqDiff, Nat.reduceLT, Nat.reduceLeDiff, Nat.reduceMul, Nat.reduceSub, BEq.rfl, beq_self_eq_true, Int.reduceToNat]
  (refine hK _ ?_)
  clear hK K
  refine AWP.seq ?_
  refine AWP.seq ?_
  refine AWP.regS G_ok laws_szSpare_DD hc (by kernel_rfl) (fun K hK => ?_); simp only [ea, gv, sv, reduceCtorEq, reduceIte, Nat.reduceBEq, Nat.reduceAdd, Nat.reduceEqDiff, Nat.reduceLT, Nat.reduceLeDiff, Nat.reduceMul, Nat.reduceSub, BEq.rfl, beq_self_eq_true, Int.reduceToNat]
  (refine hK _ ?_)
  clear hK K
  refine AWP.cond rfl (fun hb => ?_) (fun hb => ?_)
  · (simp only [hb, cond_true] at hR)
    refine AWP.seq ?_
    refine AWP.regS G_ok laws_szSpare_DD hc (by kernel_rfl) (fun K hK => ?_); simp only [ea, gv, sv, reduceCtorEq, reduceIte, Nat.reduceBEq, Nat.reduceAdd, Nat.reduceEqDiff, Nat.reduceLT, Nat.reduceLeDiff, Nat.reduceMul, Nat.reduceSub, BEq.rfl, beq_self_eq_true, Int.reduceToNat]
    (refine hK _ ?_)
    clear hK K
    refine AWP.ret ?_
    subst hR
    (simp only [en, si, ea, gv, sv, hk, reduceCtorEq, reduceIte, Nat.reduceBEq, Nat.reduceAdd, Nat.reduceEqDiff, Nat.reduceLT, Nat.reduceLeDiff, Nat.reduceMul, Nat.reduceSub, BEq.rfl, beq_self_eq_true, Int.reduceToNat]; done)
  · (simp only [hb, cond_false] at hR)
    refine AWP.skip ?_
    refine AWP.seq ?_
    refine AWP.regS G_ok laws_szSpare_DD hc (by kernel_rfl) (fun K hK => ?_); simp only [ea, gv, sv, reduceCtorEq, reduceIte, Nat.reduceBEq, Nat.reduceAdd, Nat.reduceEqDiff, Nat.reduceLT, Nat.reduceLeDiff, Nat.reduceMul, Nat.reduceSub, BEq.rfl, beq_self_eq_true, Int.reduceToNat]
    (refine hK _ ?_)
    clear hK K
    refine AWP.ret ?_
    subst hR
    (simp only [en, si, ea, gv, sv, hk, reduceCtorEq, reduceIte, Nat.reduceBEq, Nat.reduceAdd, Nat.reduceEqDiff, Nat.reduceLT, Nat.reduceLeDiff, Nat.reduceMul, Nat.reduceSub, BEq.rfl, beq_self_eq_true, Int.reduceToNat]; done)
def D_laws_szSpare : DF
  | [x0, x1] => some (.int .i64 (laws_szSpare (rdG dSpare x0) (rdI x1)), false, [wG eSpare dSpare x0, wI .i64 x1, -1 ≤ (rdI x1), (rdI x1) ≤ 1048576])
  | _ => none
theorem D_laws_szSpare_ok : OkD Try.prog 49 D_laws_szSpare := by
  intro xs r z ob h ho
  unfold D_laws_szSpare at h
  split at h
  · simp only [Option.some.injEq, Prod.mk.injEq] at h
    obtain ⟨rfl, rfl, rfl⟩ := h
    obtain ⟨h0, h1, hp0, hp1, _⟩ := ho
    exact Den.sim (laws_szSpare_den _ _ hp0 hp1) (simOL_cons (wG_sim h0).1 <| simOL_cons (wI_sim h1).1 <| trivial) (noIdL_cons (wG_sim h0).2 <| noIdL_cons (wI_sim h1).2 <| rfl) rfl
  · cases h
end Go.Ab

namespace Go.Ab
open Go Go.Proofs
theorem laws_szSpare_le (x : Spare) (n : Int) (h0 : -1 ≤ n) (h1 : n ≤ 1048576) (hx : bwSpare x) : -1 ≤ laws_szSpare x n ∧ laws_szSpare x n ≤ n := by
  have hx2 : x.Name.length < 9223372036854775808 := hx
  unfold laws_szSpare
  rw [IntKind.wrap_i64]
  cases hd : decide ((n - (x.Name.length : Int) + 9223372036854775808) % 18446744073709551616 - 9223372036854775808 < 0) with
  | true => simp; omega
  | false =>
    simp only [cond_false]
    have := of_decide_eq_false hd
    omega
theorem laws_szSpare_bd (x : Spare) (n : Int) (h0 : -1 ≤ n) (h1 : n ≤ 1048576) (hx : bwSpare x) (h : ¬ laws_szSpare x n < 0) : bdSpare x := by
  have hx2 : x.Name.length < 9223372036854775808 := hx
  unfold laws_szSpare at h
  rw [IntKind.wrap_i64] at h
  cases hd : decide ((n - (x.Name.length : Int) + 9223372036854775808) % 18446744073709551616 - 9223372036854775808 < 0) with
  | true => rw [hd] at h; simp at h
  | false =>
    have := of_decide_eq_false hd
    show x.Name.length < 1099511627776
    omega
theorem laws_szSpare_facts (x : Spare) (n : Int) (h0 : -1 ≤ n) (h1 : n ≤ 1048576) (hx : bwSpare x) : -1 ≤ laws_szSpare x n ∧ laws_szSpare x n ≤ n ∧ (¬ laws_szSpare x n < 0 → bdSpare x) :=
  ⟨(laws_szSpare_le x n h0 h1 hx).1, (laws_szSpare_le x n h0 h1 hx).2, laws_szSpare_bd x n h0 h1 hx⟩
end Go.Ab

namespace Go.Ab
open Go Go.Proofs
theorem laws_szSpareS_DD : DOk Try.prog (DD [(49, dP D_laws_szSpare)]) := DD_cons D_laws_szSpare_ok.e <| DD_nil _
def laws_szSpareS_b1 (a0 : (List Spare)) (a1 : Int) (i1 : Nat) (s1 : Int) : Except (Int) (Int) :=
  (bif decide ((laws_szSpare (a0.getD i1 default) s1) < 0) then .error (-1) else .ok (laws_szSpare (a0.getD i1 default) s1))
def laws_szSpareS (a0 : (List Spare)) (a1 : Int) : Int :=
  (bif decide ((IntKind.wrap .i64 (a1 - (a0.length : Int))) < 0) then (-1) else (match loopR (laws_szSpareS_b1 a0 a1) (a0.length - 0) 0 (IntKind.wrap .i64 (a1 - (a0.length : Int))) with | .error e => e | .ok s1 => s1))
theorem laws_szSpareS_den (a0 : (List Spare)) (a1 : Int) (hp0 : -1 ≤ a1) (hp1 : a1 ≤ 1048576) : Den Try.prog 62 [encL 3 eSpare a0, .int .i64 a1] (.int .i64 (laws_szSpareS a0 a1)) := by
  generalize hR : laws_szSpareS a0 a1 = r
  unfold laws_szSpareS at hR
  refine den_intro G_ok Try.func62 (by kernel_rfl) rfl Try.ntmps62 (by rw [Try.results62]) (by simp) rfl ?_
  intro c hL hc hk
  obtain ⟨hL0, hL1, _⟩ := hL
  have hw0 : a0.length < 9223372036854775808 := Nat.lt_succ_of_le (lens_encL hL0).1
  have hw1 : ∀ v ∈ a0, bwSpare v := fun v hv => Spare_lens v ((lens_encL hL0).2 v hv)
  clear hL0 hL1
  simp only [pars, Nat.zero_add]
  refine AWP.seq ?_
  refine AWP.regS G_ok laws_szSpareS_DD hc (by kernel_rfl) (fun K hK => ?_); simp only [ea, gv, sv, D_laws_szSpare, reduceCtorEq, reduceIte, Nat.reduceBEq, Nat.reduceAdd, Nat.reduceEqDiff, Nat.reduceLT, Nat.reduceLeDiff, Nat.reduceMul, Nat.reduceSub, BEq.rfl, beq_self_eq_true, Int.reduceToNat]
  (refine hK _ ?_)
  clear hK K
  refine AWP.seq ?_
  refine AWP.regS G_ok laws_szSpareS_DD hc (by kernel_rfl) (fun K hK => ?_); simp only [ea, gv, sv, D_laws_szSpare, reduceCtorEq, reduceIte, Nat.reduceBEq, Nat.reduceAdd, Nat.reduceEqDiff, Nat.reduceLT, Nat.reduceLeDiff, Nat.reduceMul, Nat.reduceSub, BEq.rfl, beq_self_eq_true, Int.reduceToNat]
  (refine hK _ ?_)
  clear hK K
  refine AWP.seq ?_
  refine AWP.seq ?_
  refine AWP.regS G_ok laws_szSpareS_DD hc (by kernel_rfl) (fun K hK => ?_); simp only [ea, gv, sv, D_laws_szSpare, reduceCtorEq, reduceIte, Nat.reduceBEq, Nat.reduceAdd, Nat.reduceEqDiff, Nat.reduceLT, Nat.reduceLeDiff, Nat.reduceMul, Nat.reduceSub, BEq.rfl, beq_self_eq_true, Int.reduceToNat]
  (refine hK _ ?_)
  clear hK K
  refine AWP.cond rfl (fun hb => ?_) (fun hb => ?_)
  · (simp only [hb, cond_true] at hR)
    refine AWP.seq ?_
    refine AWP.regS G_ok laws_szSpareS_DD hc (by kernel_rfl) (fun K hK => ?_); simp only [ea, gv, sv, D_laws_szSpare, reduceCtorEq, reduceIte, Nat.reduceBEq, Nat.reduceAdd, Nat.reduceEqDiff, Nat.reduceLT, Nat.reduceLeDiff, Nat.reduceMul, Nat.reduceSub, BEq.rfl, beq_self_eq_true, Int.reduceToNat]
    (refine hK _ ?_)
    clear hK K
    refine AWP.ret ?_
    subst hR
    (simp only [en, si, ea, gv, sv, hk, reduceCtorEq, reduceIte, Nat.reduceBEq, Nat.reduceAdd, Nat.reduceEqDiff, Nat.reduceLT, Nat.reduceLeDiff, Nat.reduceMul, Nat.reduceSub, BEq.rfl, beq_self_eq_true, Int.reduceToNat]; done)
  · (simp only [hb, cond_false] at hR)
    refine AWP.skip ?_
    refine AWP.seq ?_
    refine AWP.seq ?_
    refine AWP.regS G_ok laws_szSpareS_DD hc (by kernel_rfl) (fun K hK => ?_); simp only [ea, gv, sv, D_laws_szSpare, reduceCtorEq, reduceIte, Nat.reduceBEq, Nat.reduceAdd, Nat.reduceEqDiff, Nat.reduceLT, Nat.reduceLeDiff, Nat.reduceMul, Nat.reduceSub, BEq.rfl, beq_self_eq_true, Int.reduceToNat]
    (refine hK _ ?_)
    clear hK K
    refine AWP.block ?_
    generalize hz1 : loopR (laws_szSpareS_b1 a0 a1) (a0.length - 0) 0 (IntKind.wrap .i64 (a1 - (a0.length : Int))) = z1 at hR
    refine AWP.range (laws_szSpareS_b1 a0 a1) (fun i1 s1 => ⟨[(0, encL 3 eSpare a0), (1, .int .i64 s1), (5, .int .i64 (i1 : Int))], []⟩) (fun i1 s1 => -1 ≤ s1 ∧ s1 ≤ 1048576) (a0.length) 0 (IntKind.wrap .i64 (a1 - (a0.length : Int))) [] hz1 (by (omega)) (by ((and_intros <;> simp only [ob, ln] at * <;> omega))) (by (simp only [si, ea, gv, sv, hk, reduceCtorEq, reduceIte, Nat.reduceBEq, Nat.reduceAdd, Nat.reduceEqDiff, Nat.reduceLT, Nat.reduceLeDiff, Nat.reduceMul, Nat.reduceSub, BEq.rfl, beq_self_eq_true, Int.reduceToNat]; trivial)) ?_
    clear hz1
    intro i1 s1 hi1 hW1 hz1
    refine AWP.seq ?_
    refine AWP.seq ?_
    refine AWP.regS G_ok laws_szSpareS_DD hc (by kernel_rfl) (fun K hK => ?_); simp only [ea, gv, sv, D_laws_szSpare, reduceCtorEq, reduceIte, Nat.reduceBEq, Nat.reduceAdd, Nat.reduceEqDiff, Nat.reduceLT, Nat.reduceLeDiff, Nat.reduceMul, Nat.reduceSub, BEq.rfl, beq_self_eq_true, Int.reduceToNat]
    (refine hK _ ?_)
    clear hK K
    refine AWP.cond rfl (fun hb => ?_) (fun hb => ?_)
    · have hlt1 : i1 < a0.length := by ((simp only [ob, ln, bdv, sv] at *; omega))
      rw [loopR_lt hlt1] at hz1; simp only [laws_szSpareS_b1] at hz1
      refine AWP.skip ?_
      refine AWP.seq ?_
      refine AWP.block ?_
      refine AWP.seq ?_
      refine AWP.regS G_ok laws_szSpareS_DD hc (by kernel_rfl) (fun K hK => ?_); simp only [ea, gv, sv, D_laws_szSpare, reduceCtorEq, reduceIte, Nat.reduceBEq, Nat.reduceAdd, Nat.reduceEqDiff, Nat.reduceLT, Nat.reduceLeDiff, Nat.reduceMul, Nat.reduceSub, BEq.rfl, beq_self_eq_true, Int.reduceToNat]
      (refine ⟨by (omega), hK _ ?_⟩)
      clear hK K
      refine AWP.seq ?_
      refine AWP.regS G_ok laws_szSpareS_DD hc (by kernel_rfl) (fun K hK => ?_); simp only [ea, gv, sv, D_laws_szSpare, reduceCtorEq, reduceIte, Nat.reduceBEq, Nat.reduceAdd, Nat.reduceEqDiff, Nat.reduceLT, Nat.reduceLeDiff, Nat.reduceMul, Nat.reduceSub, BEq.rfl, beq_self_eq_true, Int.reduceToNat]
      (refine hK _ ?_)
      clear hK K
      refine AWP.cond rfl (fun hb => ?_) (fun hb => ?_)
      · (simp only [hb, cond_true] at hz1)
        refine AWP.seq ?_
        refine AWP.regS G_ok laws_szSpareS_DD hc (by kernel_rfl) (fun K hK => ?_); simp only [ea, gv, sv, D_laws_szSpare, reduceCtorEq, reduceIte, Nat.reduceBEq, Nat.reduceAdd, Nat.reduceEqDiff, Nat.reduceLT, Nat.reduceLeDiff, Nat.reduceMul, Nat.reduceSub, BEq.rfl, beq_self_eq_true, Int.reduceToNat]
        (refine hK _ ?_)
        clear hK K
        refine AWP.ret ?_
        subst hz1
        dsimp only at hR
        subst hR
        (simp only [en, si, ea, gv, sv, hk, reduceCtorEq, reduceIte, Nat.reduceBEq, Nat.reduceAdd, Nat.reduceEqDiff, Nat.reduceLT, Nat.reduceLeDiff, Nat.reduceMul, Nat.reduceSub, BEq.rfl, beq_self_eq_true, Int.reduceToNat]; done)
      · (simp only [hb, cond_false] at hz1)
        refine AWP.skip ?_
        refine AWP.regS G_ok laws_szSpareS_DD hc (by kernel_rfl) (fun K hK => ?_); simp only [ea, gv, sv, D_laws_szSpare, reduceCtorEq, reduceIte, Nat.reduceBEq, Nat.reduceAdd, Nat.reduceEqDiff, Nat.reduceLT, Nat.reduceLeDiff, Nat.reduceMul, Nat.reduceSub, BEq.rfl, beq_self_eq_true, Int.reduceToNat]
        (refine hK _ ?_)
        clear hK K
        exact ⟨_, [], hlt1, by (have h9 := laws_szSpare_le (a0.getD i1 default) s1 (by omega) (by omega) (bd_getD (by assumption) (by decide) _); simp only [ob] at hb; omega), hz1, by (simp only [si, ea, gv, sv, hk, reduceCtorEq, reduceIte, Nat.reduceBEq, Nat.reduceAdd, Nat.reduceEqDiff, Nat.reduceLT, Nat.reduceLeDiff, Nat.reduceMul, Nat.reduceSub, BEq.rfl, beq_self_eq_true, Int.reduceToNat]; (and_intros <;> first | trivial | (rw [IntKind.wrap_i64]; omega)))⟩
    · obtain rfl : i1 = a0.length := by ((simp only [ob, ln, bdv, sv] at *; omega))
      rw [loopR_ge (Nat.le_refl _)] at hz1; subst hz1; dsimp only at hR
      refine AWP.exit ?_; refine exitTo_here ?_
      refine AWP.seq ?_
      refine AWP.regS G_ok laws_szSpareS_DD hc (by kernel_rfl) (fun K hK => ?_); simp only [ea, gv, sv, D_laws_szSpare, reduceCtorEq, reduceIte, Nat.reduceBEq, Nat.reduceAdd, Nat.reduceEqDiff, Nat.reduceLT, Nat.reduceLeDiff, Nat.reduceMul, Nat.reduceSub, BEq.rfl, beq_self_eq_true, Int.reduceToNat]
      (refine hK _ ?_)
      clear hK K
      refine AWP.ret ?_
      subst hR
      (simp only [en, si, ea, gv, sv, hk, reduceCtorEq, reduceIte, Nat.reduceBEq, Nat.reduceAdd, Nat.reduceEqDiff, Nat.reduceLT, Nat.reduceLeDiff, Nat.reduceMul, Nat.reduceSub, BEq.rfl, beq_self_eq_true, Int.reduceToNat]; done)
def D_laws_szSpareS : DF
  | [x0, x1] => some (.int .i64 (laws_szSpareS (rdL dSpare x0) (rdI x1)), false, [wL 3 eSpare dSpare x0, wI .i64 x1, -1 ≤ (rdI x1), (rdI x1) ≤ 1048576])
  | _ => none
theorem D_laws_szSpareS_ok : OkD Try.prog 62 D_laws_szSpareS := by
  intro xs r z ob h ho
  unfold D_laws_szSpareS at h
  split at h
  · simp only [Option.some.injEq, Prod.mk.injEq] at h
    obtain ⟨rfl, rfl, rfl⟩ := h
    obtain ⟨h0, h1, hp0, hp1, _⟩ := ho
    exact Den.sim (laws_szSpareS_den _ _ hp0 hp1) (simOL_cons (wL_sim h0).1 <| simOL_cons (wI_sim h1).1 <| trivial) (noIdL_cons (wL_sim h0).2 <| noIdL_cons (wI_sim h1).2 <| rfl) rfl
  · cases h
end Go.Ab

namespace Go.Ab
open Go Go.Proofs
theorem laws_szEntryS_facts (a : List Entry) (n : Int) (h0 : -1 ≤ n) (h1 : n ≤ 1048576) (hl : a.length < 9223372036854775808) (hx : ∀ v ∈ a, bwEntry v) :
    -1 ≤ laws_szEntryS a n ∧ laws_szEntryS a n ≤ n ∧ (¬ laws_szEntryS a n < 0 → a.length ≤ 1048576 ∧ ∀ v ∈ a, bdEntry v) := by
  unfold laws_szEntryS
  rw [IntKind.wrap_i64]
  cases hd : decide ((n - (a.length : Int) + 9223372036854775808) % 18446744073709551616 - 9223372036854775808 < 0) with
  | true => simp; omega
  | false =>
    simp only [cond_false]
    have hd2 := of_decide_eq_false hd
    split
    · rename_i e h
      obtain ⟨j, t, _, _, h3⟩ := loopR_error h
      simp only [laws_szEntryS_b1] at h3
      have : e = -1 := by
        cases hq : decide (laws_szEntry (a.getD j default) t < 0) with
        | true => rw [hq] at h3; simpa using h3.symm
        | false => rw [hq] at h3; simp at h3
      omega
    · rename_i s h
      have := loopR_inv (b := laws_szEntryS_b1 a n) (fun i s => -1 ≤ s ∧ s ≤ n - a.length ∧ ∀ j, j < i → bdEntry (a.getD j default)) ⟨by omega, by omega, by intro j hj; omega⟩ (by
        intro j u v h1 h2 ⟨h3, h4, h5⟩ h6
        simp only [laws_szEntryS_b1] at h6
        have hb : bwEntry (a.getD j default) := bd_getD hx (by decide) j
        have hle := laws_szEntry_le (a.getD j default) u h3 (by omega) hb
        cases hq : decide (laws_szEntry (a.getD j default) u < 0) with
        | true => rw [hq] at h6; simp at h6
        | false =>
          rw [hq] at h6
          simp only [cond_false, Except.ok.injEq] at h6
          subst h6
          refine ⟨by omega, by omega, fun q hq2 => ?_⟩
          by_cases hqj : q = j
          · subst hqj; exact laws_szEntry_bd _ u h3 (by omega) hb (of_decide_eq_false hq)
          · exact h5 q (by omega)) h
      refine ⟨by omega, by omega, fun _ => ⟨by omega, fun v hv => ?_⟩⟩
      obtain ⟨i, hi, rfl⟩ := List.getElem_of_mem hv
      have := this.2.2 i (by omega)
      simpa [List.getD_eq_getElem?_getD, hi] using this
end Go.Ab

namespace Go.Ab
open Go Go.Proofs
theorem laws_szSpareS_facts (a : List Spare) (n : Int) (h0 : -1 ≤ n) (h1 : n ≤ 1048576) (hl : a.length < 9223372036854775808) (hx : ∀ v ∈ a, bwSpare v) :
    -1 ≤ laws_szSpareS a n ∧ laws_szSpareS a n ≤ n ∧ (¬ laws_szSpareS a n < 0 → a.length ≤ 1048576 ∧ ∀ v ∈ a, bdSpare v) := by
  unfold laws_szSpareS
  rw [IntKind.wrap_i64]
  cases hd : decide ((n - (a.length : Int) + 9223372036854775808) % 18446744073709551616 - 9223372036854775808 < 0) with
  | true => simp; omega
  | false =>
    simp only [cond_false]
    have hd2 := of_decide_eq_false hd
    split
    · rename_i e h
      obtain ⟨j, t, _, _, h3⟩ := loopR_error h
      simp only [laws_szSpareS_b1] at h3
      have : e = -1 := by
        cases hq : decide (laws_szSpare (a.getD j default) t < 0) with
        | true => rw [hq] at h3; simpa using h3.symm
        | false => rw [hq] at h3; simp at h3
      omega
    · rename_i s h
      have := loopR_inv (b := laws_szSpareS_b1 a n) (fun i s => -1 ≤ s ∧ s ≤ n - a.length ∧ ∀ j, j < i → bdSpare (a.getD j default)) ⟨by omega, by omega, by intro j hj; omega⟩ (by
        intro j u v h1 h2 ⟨h3, h4, h5⟩ h6
        simp only [laws_szSpareS_b1] at h6
        have hb : bwSpare (a.getD j default) := bd_getD hx (by decide) j
        have hle := laws_szSpare_le (a.getD j default) u h3 (by omega) hb
        cases hq : decide (laws_szSpare (a.getD j default) u < 0) with
        | true => rw [hq] at h6; simp at h6
        | false =>
          rw [hq] at h6
          simp only [cond_false, Except.ok.injEq] at h6
          subst h6
          refine ⟨by omega, by omega, fun q hq2 => ?_⟩
          by_cases hqj : q = j
          · subst hqj; exact laws_szSpare_bd _ u h3 (by omega) hb (of_decide_eq_false hq)
          · exact h5 q (by omega)) h
      refine ⟨by omega, by omega, fun _ => ⟨by omega, fun v hv => ?_⟩⟩
      obtain ⟨i, hi, rfl⟩ := List.getElem_of_mem hv
      have := this.2.2 i (by omega)
      simpa [List.getD_eq_getElem?_getD, hi] using this
end Go.Ab

namespace Go.Ab
open Go Go.Proofs
theorem laws_szStore_DD : DOk Try.prog (DD [(56, dP D_laws_szEntryS), (62, dP D_laws_szSpareS)]) := DD_cons D_laws_szEntryS_ok.e <| DD_cons D_laws_szSpareS_ok.e <| DD_nil _
def laws_szStore (a0 : Store) (a1 : Int) : Int :=
  (bif decide ((laws_szSpareS a0.Spares a1) < 0) then (-1) else (bif decide ((laws_szEntryS a0.Entries (laws_szSpareS a0.Spares a1)) < 0) then (-1) else (laws_szEntryS a0.Entries (laws_szSpareS a0.Spares a1))))
theorem laws_szStore_den (a0 : Store) (a1 : Int) (hp0 : -1 ≤ a1) (hp1 : a1 ≤ 1048576) : Den Try.prog 15 [.agg (eStore a0), .int .i64 a1] (.int .i64 (laws_szStore a0 a1)) := by
  generalize hR : laws_szStore a0 a1 = r
  unfold laws_szStore at hR
  refine den_intro G_ok Try.func15 (by kernel_rfl) rfl Try.ntmps15 (by rw [Try.results15]) (by simp) rfl ?_
  intro c hL hc hk
  obtain ⟨hL0, hL1, _⟩ := hL
  have hw0 : bwStore a0 := Store_lens a0 hL0
  clear hL0 hL1
  simp only [pars, Nat.zero_add]
  have hq := hw0
  obtain ⟨⟨g1, g2⟩, g3, g4⟩ := hq
  have hf1 := laws_szSpareS_facts a0.Spares a1 hp0 hp1 g1 g2
  refine AWP.seq ?_
  refine AWP.regS G_ok laws_szStore_DD hc (by kernel_rfl) (fun K hK => ?_); simp only [ea, gv, sv, D_laws_szEntryS, D_laws_szSpareS, reduceCtorEq, reduceIte, Nat.reduceBEq, Nat.reduceAdd, Nat.reduceEqDiff, Nat.reduceLT, Nat.reduceLeDiff, Nat.reduceMul, Nat.reduceSub, BEq.rfl, beq_self_eq_true, Int.reduceToNat]
  (refine hK _ ?_)
  clear hK K
  refine AWP.seq ?_
  refine AWP.regS G_ok laws_szStore_DD hc (by kernel_rfl) (fun K hK => ?_); simp only [ea, gv, sv, D_laws_szEntryS, D_laws_szSpareS, reduceCtorEq, reduceIte, Nat.reduceBEq, Nat.reduceAdd, Nat.reduceEqDiff, Nat.reduceLT, Nat.reduceLeDiff, Nat.reduceMul, Nat.reduceSub, BEq.rfl, beq_self_eq_true, Int.reduceToNat]
  (refine ⟨by (trivial), hK _ ?_⟩)
  clear hK K
  refine AWP.seq ?_
  refine AWP.seq ?_
  refine AWP.regS G_ok laws_szStore_DD hc (by kernel_rfl) (fun K hK => ?_); simp only [ea, gv, sv, D_laws_szEntryS, D_laws_szSpareS, reduceCtorEq, reduceIte, Nat.reduceBEq, Nat.reduceAdd, Nat.reduceEqDiff, Nat.reduceLT, Nat.reduceLeDiff, Nat.reduceMul, Nat.reduceSub, BEq.rfl, beq_self_eq_true, Int.reduceToNat]
  (refine hK _ ?_)
  clear hK K
  refine AWP.cond rfl (fun hb => ?_) (fun hb => ?_)
  · (simp only [hb, cond_true] at hR)
    refine AWP.seq ?_
    refine AWP.regS G_ok laws_szStore_DD hc (by kernel_rfl) (fun K hK => ?_); simp only [ea, gv, sv, D_laws_szEntryS, D_laws_szSpareS, reduceCtorEq, reduceIte, Nat.reduceBEq, Nat.reduceAdd, Nat.reduceEqDiff, Nat.reduceLT, Nat.reduceLeDiff, Nat.reduceMul, Nat.reduceSub, BEq.rfl, beq_self_eq_true, Int.reduceToNat]
    (refine hK _ ?_)
    clear hK K
    refine AWP.ret ?_
    subst hR
    (simp only [en, si, ea, gv, sv, hk, reduceCtorEq, reduceIte, Nat.reduceBEq, Nat.reduceAdd, Nat.reduceEqDiff, Nat.reduceLT, Nat.reduceLeDiff, Nat.reduceMul, Nat.reduceSub, BEq.rfl, beq_self_eq_true, Int.reduceToNat]; done)
  · (simp only [hb, cond_false] at hR)
    refine AWP.skip ?_
    refine AWP.seq ?_
    refine AWP.regS G_ok laws_szStore_DD hc (by kernel_rfl) (fun K hK => ?_); simp only [ea, gv, sv, D_laws_szEntryS, D_laws_szSpareS, reduceCtorEq, reduceIte, Nat.reduceBEq, Nat.reduceAdd, Nat.reduceEqDiff, Nat.reduceLT, Nat.reduceLeDiff, Nat.reduceMul, Nat.reduceSub, BEq.rfl, beq_self_eq_true, Int.reduceToNat]
    (refine ⟨by (omega), hK _ ?_⟩)
    clear hK K
    refine AWP.seq ?_
    refine AWP.seq ?_
    refine AWP.regS G_ok laws_szStore_DD hc (by kernel_rfl) (fun K hK => ?_); simp only [ea, gv, sv, D_laws_szEntryS, D_laws_szSpareS, reduceCtorEq, reduceIte, Nat.reduceBEq, Nat.reduceAdd, Nat.reduceEqDiff, Nat.reduceLT, Nat.reduceLeDiff, Nat.reduceMul, Nat.reduceSub, BEq.rfl, beq_self_eq_true, Int.reduceToNat]
    (refine hK _ ?_)
    clear hK K
    refine AWP.cond rfl (fun hb => ?_) (fun hb => ?_)
    · (simp only [hb, cond_true] at hR)
      refine AWP.seq ?_
      refine AWP.regS G_ok laws_szStore_DD hc (by kernel_rfl) (fun K hK => ?_); simp only [ea, gv, sv, D_laws_szEntryS, D_laws_szSpareS, reduceCtorEq, reduceIte, Nat.reduceBEq, Nat.reduceAdd, Nat.reduceEqDiff, Nat.reduceLT, Nat.reduceLeDiff, Nat.reduceMul, Nat.reduceSub, BEq.rfl, beq_self_eq_true, Int.reduceToNat]
      (refine hK _ ?_)
      clear hK K
      refine AWP.ret ?_
      subst hR
      (simp only [en, si, ea, gv, sv, hk, reduceCtorEq, reduceIte, Nat.reduceBEq, Nat.reduceAdd, Nat.reduceEqDiff, Nat.reduceLT, Nat.reduceLeDiff, Nat.reduceMul, Nat.reduceSub, BEq.rfl, beq_self_eq_true, Int.reduceToNat]; done)
    · (simp only [hb, cond_false] at hR)
      refine AWP.skip ?_
      refine AWP.seq ?_
      refine AWP.regS G_ok laws_szStore_DD hc (by kernel_rfl) (fun K hK => ?_); simp only [ea, gv, sv, D_laws_szEntryS, D_laws_szSpareS, reduceCtorEq, reduceIte, Nat.reduceBEq, Nat.reduceAdd, Nat.reduceEqDiff, Nat.reduceLT, Nat.reduceLeDiff, Nat.reduceMul, Nat.reduceSub, BEq.rfl, beq_self_eq_true, Int.reduceToNat]
      (refine hK _ ?_)
      clear hK K
      refine AWP.ret ?_
      subst hR
      (simp only [en, si, ea, gv, sv, hk, reduceCtorEq, reduceIte, Nat.reduceBEq, Nat.reduceAdd, Nat.reduceEqDiff, Nat.reduceLT, Nat.reduceLeDiff, Nat.reduceMul, Nat.reduceSub, BEq.rfl, beq_self_eq_true, Int.reduceToNat]; done)
def D_laws_szStore : DF
  | [x0, x1] => some (.int .i64 (laws_szStore (rdG dStore x0) (rdI x1)), false, [wG eStore dStore x0, wI .i64 x1, -1 ≤ (rdI x1), (rdI x1) ≤ 1048576])
  | _ => none
theorem D_laws_szStore_ok : OkD Try.prog 15 D_laws_szStore := by
  intro xs r z ob h ho
  unfold D_laws_szStore at h
  split at h
  · simp only [Option.some.injEq, Prod.mk.injEq] at h
    obtain ⟨rfl, rfl, rfl⟩ := h
    obtain ⟨h0, h1, hp0, hp1, _⟩ := ho
    exact Den.sim (laws_szStore_den _ _ hp0 hp1) (simOL_cons (wG_sim h0).1 <| simOL_cons (wI_sim h1).1 <| trivial) (noIdL_cons (wG_sim h0).2 <| noIdL_cons (wI_sim h1).2 <| rfl) rfl
  · cases h
end Go.Ab

namespace Go.Ab
open Go Go.Proofs
theorem laws_szStore_facts (a : Store) (n : Int) (h0 : -1 ≤ n) (h1 : n ≤ 1048576) (hx : bwStore a) :
    -1 ≤ laws_szStore a n ∧ laws_szStore a n ≤ n ∧ (¬ laws_szStore a n < 0 → bdStore a) := by
  obtain ⟨⟨g1, g2⟩, g3, g4⟩ := hx
  have hf1 := laws_szSpareS_facts a.Spares n h0 h1 g1 g2
  have hf2 := laws_szEntryS_facts a.Entries (laws_szSpareS a.Spares n) (by omega) (by omega) g3 g4
  unfold laws_szStore
  cases hd : decide (laws_szSpareS a.Spares n < 0) with
  | true => simp; omega
  | false =>
    have hd := of_decide_eq_false hd
    simp only [cond_false]
    cases he : decide (laws_szEntryS a.Entries (laws_szSpareS a.Spares n) < 0) with
    | true => simp; omega
    | false =>
      have he := of_decide_eq_false he
      simp only [cond_false]
      have q1 := hf1.2.2 hd
      have q2 := hf2.2.2 he
      exact ⟨by omega, by omega, fun _ => ⟨⟨by omega, q1.2⟩, by omega, q2.2⟩⟩
end Go.Ab

namespace Go.Ab
open Go Go.Proofs
theorem laws_eqSpare_DD : DOk Try.prog (DD []) := DD_nil _
def laws_eqSpare (a0 : Spare) (a1 : Spare) : Bool :=
  (bif (a0.Name != a1.Name) then false else (bif (a0.Least != a1.Least) then false else (bif (a0.Most != a1.Most) then false else true)))
theorem laws_eqSpare_den (a0 : Spare) (a1 : Spare)  : Den Try.prog 116 [.agg (eSpare a0), .agg (eSpare a1)] (.bool (laws_eqSpare a0 a1)) := by
  generalize hR : laws_eqSpare a0 a1 = r
  unfold laws_eqSpare at hR
  refine den_intro G_ok Try.func116 (by kernel_rfl) rfl Try.ntmps116 (by rw [Try.results116]) (by simp) rfl ?_
  intro c hL hc hk
  obtain ⟨hL0, hL1, _⟩ := hL
  have hw0 : bwSpare a0 := Spare_lens a0 hL0
  have hw1 : bwSpare a1 := Spare_lens a1 hL1
  clear hL0 hL1
  simp only [pars, Nat.zero_add]
  refine AWP.seq ?_
  refine AWP.regS G_ok laws_eqSpare_DD hc (by kernel_rfl) (fun K hK => ?_); simp only [ea, gv, sv, reduceCtorEq, reduceIte, Nat.reduceBEq, Nat.reduceAdd, Nat.reduceEqDiff, Nat.reduceLT, Nat.reduceLeDiff, Nat.reduceMul, Nat.reduceSub, BEq.rfl, beq_self_eq_true, Int.reduceToNat]
  (refine hK _ ?_)
  clear hK K
  refine AWP.seq ?_
  refine AWP.seq ?_
  refine AWP.regS G_ok laws_eqSpare_DD hc (by kernel_rfl) (fun K hK => ?_); simp only [ea, gv, sv, reduceCtorEq, reduceIte, Nat.reduceBEq, Nat.reduceAdd, Nat.reduceEqDiff, Nat.reduceLT, Nat.reduceLeDiff, Nat.reduceMul, Nat.reduceSub, BEq.rfl, beq_self_eq_true, Int.reduceToNat]
  (refine hK _ ?_)
  clear hK K
  refine AWP.cond rfl (fun hb => ?_) (fun hb => ?_)
  · (simp only [hb, cond_true] at hR)
    refine AWP.seq ?_
    refine AWP.regS G_ok laws_eqSpare_DD hc (by kernel_rfl) (fun K hK => ?_); simp only [ea, gv, sv, reduceCtorEq, reduceIte, Nat.reduceBEq, Nat.reduceAdd, Nat.reduceEqDiff, Nat.reduceLT, Nat.reduceLeDiff, Nat.reduceMul, Nat.reduceSub, BEq.rfl, beq_self_eq_true, Int.reduceToNat]
    (refine hK _ ?_)
    clear hK K
    refine AWP.ret ?_
    subst hR
    (simp only [en, si, ea, gv, sv, hk, reduceCtorEq, reduceIte, Nat.reduceBEq, Nat.reduceAdd, Nat.reduceEqDiff, Nat.reduceLT, Nat.reduceLeDiff, Nat.reduceMul, Nat.reduceSub, BEq.rfl, beq_self_eq_true, Int.reduceToNat]; done)
  · (simp only [hb, cond_false] at hR)
    refine AWP.skip ?_
    refine AWP.seq ?_
    refine AWP.seq ?_
    refine AWP.regS G_ok laws_eqSpare_DD hc (by kernel_rfl) (fun K hK => ?_); simp only [ea, gv, sv, reduceCtorEq, reduceIte, Nat.reduceBEq, Nat.reduceAdd, Nat.reduceEqDiff, Nat.reduceLT, Nat.reduceLeDiff, Nat.reduceMul, Nat.reduceSub, BEq.rfl, beq_self_eq_true, Int.reduceToNat]
    (refine hK _ ?_)
    clear hK K
    refine AWP.cond rfl (fun hb => ?_) (fun hb => ?_)
    · (simp only [hb, cond_true] at hR)
      refine AWP.seq ?_
      refine AWP.regS G_ok laws_eqSpare_DD hc (by kernel_rfl) (fun K hK => ?_); simp only [ea, gv, sv, reduceCtorEq, reduceIte, Nat.reduceBEq, Nat.reduceAdd, Nat.reduceEqDiff, Nat.reduceLT, Nat.reduceLeDiff, Nat.reduceMul, Nat.reduceSub, BEq.rfl, beq_self_eq_true, Int.reduceToNat]
      (refine hK _ ?_)
      clear hK K
      refine AWP.ret ?_
      subst hR
      (simp only [en, si, ea, gv, sv, hk, reduceCtorEq, reduceIte, Nat.reduceBEq, Nat.reduceAdd, Nat.reduceEqDiff, Nat.reduceLT, Nat.reduceLeDiff, Nat.reduceMul, Nat.reduceSub, BEq.rfl, beq_self_eq_true, Int.reduceToNat]; done)
    · (simp only [hb, cond_false] at hR)
      refine AWP.skip ?_
      refine AWP.seq ?_
      refine AWP.seq ?_
      refine AWP.regS G_ok laws_eqSpare_DD hc (by kernel_rfl) (fun K hK => ?_); simp only [ea, gv, sv, reduceCtorEq, reduceIte, Nat.reduceBEq, Nat.reduceAdd, Nat.reduceEqDiff, Nat.reduceLT, Nat.reduceLeDiff, Nat.reduceMul, Nat.reduceSub, BEq.rfl, beq_self_eq_true, Int.reduceToNat]
      (refine hK _ ?_)
      clear hK K
      refine AWP.cond rfl (fun hb => ?_) (fun hb => ?_)
      · (simp only [hb, cond_true] at hR)
        refine AWP.seq ?_
        refine AWP.regS G_ok laws_eqSpare_DD hc (by kernel_rfl) (fun K hK => ?_); simp only [ea, gv, sv, reduceCtorEq, reduceIte, Nat.reduceBEq, Nat.reduceAdd, Nat.reduceEqDiff, Nat.reduceLT, Nat.reduceLeDiff, Nat.reduceMul, Nat.reduceSub, BEq.rfl, beq_self_eq_true, Int.reduceToNat]
        (refine hK _ ?_)
        clear hK K
        refine AWP.ret ?_
        subst hR
        (simp only [en, si, ea, gv, sv, hk, reduceCtorEq, reduceIte, Nat.reduceBEq, Nat.reduceAdd, Nat.reduceEqDiff, Nat.reduceLT, Nat.reduceLeDiff, Nat.reduceMul, Nat.reduceSub, BEq.rfl, beq_self_eq_true, Int.reduceToNat]; done)
      · (simp only [hb, cond_false] at hR)
        refine AWP.skip ?_
        refine AWP.seq ?_
        refine AWP.regS G_ok laws_eqSpare_DD hc (by kernel_rfl) (fun K hK => ?_); simp only [ea, gv, sv, reduceCtorEq, reduceIte, Nat.reduceBEq, Nat.reduceAdd, Nat.reduceEqDiff, Nat.reduceLT, Nat.reduceLeDiff, Nat.reduceMul, Nat.reduceSub, BEq.rfl, beq_self_eq_true, Int.reduceToNat]
        (refine hK _ ?_)
        clear hK K
        refine AWP.ret ?_
        subst hR
        (simp only [en, si, ea, gv, sv, hk, reduceCtorEq, reduceIte, Nat.reduceBEq, Nat.reduceAdd, Nat.reduceEqDiff, Nat.reduceLT, Nat.reduceLeDiff, Nat.reduceMul, Nat.reduceSub, BEq.rfl, beq_self_eq_true, Int.reduceToNat]; done)
def D_laws_eqSpare : DF
  | [x0, x1] => some (.bool (laws_eqSpare (rdG dSpare x0) (rdG dSpare x1)), false, [wG eSpare dSpare x0, wG eSpare dSpare x1])
  | _ => none
theorem D_laws_eqSpare_ok : OkD Try.prog 116 D_laws_eqSpare := by
  intro xs r z ob h ho
  unfold D_laws_eqSpare at h
  split at h
  · simp only [Option.some.injEq, Prod.mk.injEq] at h
    obtain ⟨rfl, rfl, rfl⟩ := h
    obtain ⟨h0, h1, _⟩ := ho
    exact Den.sim (laws_eqSpare_den _ _ ) (simOL_cons (wG_sim h0).1 <| simOL_cons (wG_sim h1).1 <| trivial) (noIdL_cons (wG_sim h0).2 <| noIdL_cons (wG_sim h1).2 <| rfl) rfl
  · cases h
end Go.Ab

namespace Go.Ab
open Go Go.Proofs
theorem laws_eqSpareS_DD : DOk Try.prog (DD [(116, dP D_laws_eqSpare)]) := DD_cons D_laws_eqSpare_ok.e <| DD_nil _
def laws_eqSpareS_b1 (a0 : (List Spare)) (a1 : (List Spare)) (i1 : Nat) (s1 : Unit) : Except (Bool) (Unit) :=
  (bif (!(laws_eqSpare (a0.getD i1 default) (a1.getD i1 default))) then .error false else .ok ())
def laws_eqSpareS (a0 : (List Spare)) (a1 : (List Spare)) : Bool :=
  (bif ((a0.length : Int) != (a1.length : Int)) then false else (match loopR (laws_eqSpareS_b1 a0 a1) (a0.length - 0) 0 () with | .error e => e | .ok s1 => true))
theorem laws_eqSpareS_den (a0 : (List Spare)) (a1 : (List Spare))  : Den Try.prog 73 [encL 3 eSpare a0, encL 3 eSpare a1] (.bool (laws_eqSpareS a0 a1)) := by
  generalize hR : laws_eqSpareS a0 a1 = r
  unfold laws_eqSpareS at hR
  refine den_intro G_ok Try.func73 (by kernel_rfl) rfl Try.ntmps73 (by rw [Try.results73]) (by simp) rfl ?_
  intro c hL hc hk
  obtain ⟨hL0, hL1, _⟩ := hL
  have hw0 : a0.length < 9223372036854775808 := Nat.lt_succ_of_le (lens_encL hL0).1
  have hw1 : ∀ v ∈ a0, bwSpare v := fun v hv => Spare_lens v ((lens_encL hL0).2 v hv)
  have hw2 : a1.length < 9223372036854775808 := Nat.lt_succ_of_le (lens_encL hL1).1
  have hw3 : ∀ v ∈ a1, bwSpare v := fun v hv => Spare_lens v ((lens_encL hL1).2 v hv)
  clear hL0 hL1
  simp only [pars, Nat.zero_add]
  refine AWP.seq ?_
  refine AWP.regS G_ok laws_eqSpareS_DD hc (by kernel_rfl) (fun K hK => ?_); simp only [ea, gv, sv, D_laws_eqSpare, reduceCtorEq, reduceIte, Nat.reduceBEq, Nat.reduceAdd, Nat.reduceEqDiff, Nat.reduceLT, Nat.reduceLeDiff, Nat.reduceMul, Nat.reduceSub, BEq.rfl, beq_self_eq_true, Int.reduceToNat]
  (refine hK _ ?_)
  clear hK K
  refine AWP.seq ?_
  refine AWP.seq ?_
  refine AWP.regS G_ok laws_eqSpareS_DD hc (by kernel_rfl) (fun K hK => ?_); simp only [ea, gv, sv, D_laws_eqSpare, reduceCtorEq, reduceIte, Nat.reduceBEq, Nat.reduceAdd, Nat.reduceEqDiff, Nat.reduceLT, Nat.reduceLeDiff, Nat.reduceMul, Nat.reduceSub, BEq.rfl, beq_self_eq_true, Int.reduceToNat]
  (refine hK _ ?_)
  clear hK K
  refine AWP.cond rfl (fun hb => ?_) (fun hb => ?_)
  · (simp only [hb, cond_true] at hR)
    refine AWP.seq ?_
    refine AWP.regS G_ok laws_eqSpareS_DD hc (by kernel_rfl) (fun K hK => ?_); simp only [ea, gv, sv, D_laws_eqSpare, reduceCtorEq, reduceIte, Nat.reduceBEq, Nat.reduceAdd, Nat.reduceEqDiff, Nat.reduceLT, Nat.reduceLeDiff, Nat.reduceMul, Nat.reduceSub, BEq.rfl, beq_self_eq_true, Int.reduceToNat]
    (refine hK _ ?_)
    clear hK K
    refine AWP.ret ?_
    subst hR
    (simp only [en, si, ea, gv, sv, hk, reduceCtorEq, reduceIte, Nat.reduceBEq, Nat.reduceAdd, Nat.reduceEqDiff, Nat.reduceLT, Nat.reduceLeDiff, Nat.reduceMul, Nat.reduceSub, BEq.rfl, beq_self_eq_true, Int.reduceToNat]; done)
  · (simp only [hb, cond_false] at hR)
    refine AWP.skip ?_
    refine AWP.seq ?_
    refine AWP.seq ?_
    refine AWP.regS G_ok laws_eqSpareS_DD hc (by kernel_rfl) (fun K hK => ?_); simp only [ea, gv, sv, D_laws_eqSpare, reduceCtorEq, reduceIte, Nat.reduceBEq, Nat.reduceAdd, Nat.reduceEqDiff, Nat.reduceLT, Nat.reduceLeDiff, Nat.reduceMul, Nat.reduceSub, BEq.rfl, beq_self_eq_true, Int.reduceToNat]
    (refine hK _ ?_)
    clear hK K
    refine AWP.block ?_
    generalize hz1 : loopR (laws_eqSpareS_b1 a0 a1) (a0.length - 0) 0 () = z1 at hR
    refine AWP.range (laws_eqSpareS_b1 a0 a1) (fun i1 s1 => ⟨[(0, encL 3 eSpare a0), (1, encL 3 eSpare a1), (5, .int .i64 (i1 : Int))], []⟩) (fun i1 s1 => True) (a0.length) 0 () [] hz1 (by (omega)) (by (trivial)) (by (simp only [si, ea, gv, sv, hk, reduceCtorEq, reduceIte, Nat.reduceBEq, Nat.reduceAdd, Nat.reduceEqDiff, Nat.reduceLT, Nat.reduceLeDiff, Nat.reduceMul, Nat.reduceSub, BEq.rfl, beq_self_eq_true, Int.reduceToNat]; trivial)) ?_
    clear hz1
    intro i1 s1 hi1 hW1 hz1
    refine AWP.seq ?_
    refine AWP.seq ?_
    refine AWP.regS G_ok laws_eqSpareS_DD hc (by kernel_rfl) (fun K hK => ?_); simp only [ea, gv, sv, D_laws_eqSpare, reduceCtorEq, reduceIte, Nat.reduceBEq, Nat.reduceAdd, Nat.reduceEqDiff, Nat.reduceLT, Nat.reduceLeDiff, Nat.reduceMul, Nat.reduceSub, BEq.rfl, beq_self_eq_true, Int.reduceToNat]
    (refine hK _ ?_)
    clear hK K
    refine AWP.cond rfl (fun hb => ?_) (fun hb => ?_)
    · have hlt1 : i1 < a0.length := by ((simp only [ob, ln, bdv, sv] at *; omega))
      rw [loopR_lt hlt1] at hz1; simp only [laws_eqSpareS_b1] at hz1
      refine AWP.skip ?_
      refine AWP.seq ?_
      refine AWP.block ?_
      refine AWP.seq ?_
      refine AWP.regD mixed G_ok laws_eqSpareS_DD hc 8 (by kernel_rfl) (by kernel_rfl) (fun K hK => ?_); simp only [ea, gv, sv, D_laws_eqSpare, reduceCtorEq, reduceIte, Nat.reduceBEq, Nat.reduceAdd, Nat.reduceEqDiff, Nat.reduceLT, Nat.reduceLeDiff, Nat.reduceMul, Nat.reduceSub, BEq.rfl, beq_self_eq_true, Int.reduceToNat]
      (refine ⟨by ((simp only [ob, ln, bdv, sv] at *; omega)), hK _ ?_⟩)
      clear hK K
      refine AWP.cond rfl (fun hb => ?_) (fun hb => ?_)
      · (simp only [hb, cond_true] at hz1)
        refine AWP.seq ?_
        refine AWP.regS G_ok laws_eqSpareS_DD hc (by kernel_rfl) (fun K hK => ?_); simp only [ea, gv, sv, D_laws_eqSpare, reduceCtorEq, reduceIte, Nat.reduceBEq, Nat.reduceAdd, Nat.reduceEqDiff, Nat.reduceLT, Nat.reduceLeDiff, Nat.reduceMul, Nat.reduceSub, BEq.rfl, beq_self_eq_true, Int.reduceToNat]
        (refine hK _ ?_)
        clear hK K
        refine AWP.ret ?_
        subst hz1
        dsimp only at hR
        subst hR
        (simp only [en, si, ea, gv, sv, hk, reduceCtorEq, reduceIte, Nat.reduceBEq, Nat.reduceAdd, Nat.reduceEqDiff, Nat.reduceLT, Nat.reduceLeDiff, Nat.reduceMul, Nat.reduceSub, BEq.rfl, beq_self_eq_true, Int.reduceToNat]; done)
      · (simp only [hb, cond_false] at hz1)
        refine AWP.skip ?_
        refine AWP.regS G_ok laws_eqSpareS_DD hc (by kernel_rfl) (fun K hK => ?_); simp only [ea, gv, sv, D_laws_eqSpare, reduceCtorEq, reduceIte, Nat.reduceBEq, Nat.reduceAdd, Nat.reduceEqDiff, Nat.reduceLT, Nat.reduceLeDiff, Nat.reduceMul, Nat.reduceSub, BEq.rfl, beq_self_eq_true, Int.reduceToNat]
        (refine hK _ ?_)
        clear hK K
        exact ⟨_, [], hlt1, by (trivial), hz1, by (simp only [si, ea, gv, sv, hk, reduceCtorEq, reduceIte, Nat.reduceBEq, Nat.reduceAdd, Nat.reduceEqDiff, Nat.reduceLT, Nat.reduceLeDiff, Nat.reduceMul, Nat.reduceSub, BEq.rfl, beq_self_eq_true, Int.reduceToNat]; (and_intros <;> first | trivial | (rw [IntKind.wrap_i64]; omega)))⟩
    · obtain rfl : i1 = a0.length := by ((simp only [ob, ln, bdv, sv] at *; omega))
      rw [loopR_ge (Nat.le_refl _)] at hz1; subst hz1; dsimp only at hR
      refine AWP.exit ?_; refine exitTo_here ?_
      refine AWP.seq ?_
      refine AWP.regS G_ok laws_eqSpareS_DD hc (by kernel_rfl) (fun K hK => ?_); simp only [ea, gv, sv, D_laws_eqSpare, reduceCtorEq, reduceIte, Nat.reduceBEq, Nat.reduceAdd, Nat.reduceEqDiff, Nat.reduceLT, Nat.reduceLeDiff, Nat.reduceMul, Nat.reduceSub, BEq.rfl, beq_self_eq_true, Int.reduceToNat]
      (refine hK _ ?_)
      clear hK K
      refine AWP.ret ?_
      subst hR
      (simp only [en, si, ea, gv, sv, hk, reduceCtorEq, reduceIte, Nat.reduceBEq, Nat.reduceAdd, Nat.reduceEqDiff, Nat.reduceLT, Nat.reduceLeDiff, Nat.reduceMul, Nat.reduceSub, BEq.rfl, beq_self_eq_true, Int.reduceToNat]; done)
def D_laws_eqSpareS : DF
  | [x0, x1] => some (.bool (laws_eqSpareS (rdL dSpare x0) (rdL dSpare x1)), false, [wL 3 eSpare dSpare x0, wL 3 eSpare dSpare x1])
  | _ => none
theorem D_laws_eqSpareS_ok : OkD Try.prog 73 D_laws_eqSpareS := by
  intro xs r z ob h ho
  unfold D_laws_eqSpareS at h
  split at h
  · simp only [Option.some.injEq, Prod.mk.injEq] at h
    obtain ⟨rfl, rfl, rfl⟩ := h
    obtain ⟨h0, h1, _⟩ := ho
    exact Den.sim (laws_eqSpareS_den _ _ ) (simOL_cons (wL_sim h0).1 <| simOL_cons (wL_sim h1).1 <| trivial) (noIdL_cons (wL_sim h0).2 <| noIdL_cons (wL_sim h1).2 <| rfl) rfl
  · cases h
end Go.Ab

namespace Go.Ab
open Go Go.Proofs
theorem laws_eqSpare_dec (a b : Spare) : laws_eqSpare a b = decide (a = b) := by
  unfold laws_eqSpare
  by_cases h : a = b
  · subst h; simp
  · rw [decide_eq_false h]
    cases a; cases b
    simp only [Spare.mk.injEq] at h
    simp only [bne_iff_ne, Bool.cond_eq_ite, ite_eq_right_iff]
    (repeat' split) <;> simp_all
theorem laws_eqSpareS_dec (a b : List Spare) : laws_eqSpareS a b = decide (a = b) := by
  unfold laws_eqSpareS
  by_cases hl : a.length = b.length
  · have h1 : ((a.length : Int) != (b.length : Int)) = false := by simp [hl]
    rw [h1, cond_false, loopR_any (b := laws_eqSpareS_b1 a b) (fun j => !decide (a.getD j default = b.getD j default)) false (fun j u _ _ => by simp only [laws_eqSpareS_b1, laws_eqSpare_dec])]
    simp only [Nat.sub_zero, Nat.zero_add]
    rw [any_ne a b hl]
    by_cases h : a = b <;> simp [h]
  · have h1 : ((a.length : Int) != (b.length : Int)) = true := by simp; omega
    have h2 : ¬ a = b := fun e => hl (by rw [e])
    rw [h1, cond_true, decide_eq_false h2]
end Go.Ab

namespace Go.Ab
open Go Go.Proofs
theorem laws_eqEntry_DD : DOk Try.prog (DD []) := DD_nil _
def laws_eqEntry (a0 : Entry) (a1 : Entry) : Bool :=
  (bif (a0.Day != a1.Day) then false else (bif (a0.Item != a1.Item) then false else (bif (a0.Amount != a1.Amount) then false else true)))
theorem laws_eqEntry_den (a0 : Entry) (a1 : Entry)  : Den Try.prog 112 [.agg (eEntry a0), .agg (eEntry a1)] (.bool (laws_eqEntry a0 a1)) := by
  generalize hR : laws_eqEntry a0 a1 = r
  unfold laws_eqEntry at hR
  refine den_intro G_ok Try.func112 (by kernel_rfl) rfl Try.ntmps112 (by rw [Try.results112]) (by simp) rfl ?_
  intro c hL hc hk
  obtain ⟨hL0, hL1, _⟩ := hL
  have hw0 : bwEntry a0 := Entry_lens a0 hL0
  have hw1 : bwEntry a1 := Entry_lens a1 hL1
  clear hL0 hL1
  simp only [pars, Nat.zero_add]
  refine AWP.seq ?_
  refine AWP.regS G_ok laws_eqEntry_DD hc (by kernel_rfl) (fun K hK => ?_); simp only [ea, gv, sv, reduceCtorEq, reduceIte, Nat.reduceBEq, Nat.reduceAdd, Nat.reduceEqDiff, Nat.reduceLT, Nat.reduceLeDiff, Nat.reduceMul, Nat.reduceSub, BEq.rfl, beq_self_eq_true, Int.reduceToNat]
  (refine hK _ ?_)
  clear hK K
  refine AWP.seq ?_
  refine AWP.seq ?_
  refine AWP.regS G_ok laws_eqEntry_DD hc (by kernel_rfl) (fun K hK => ?_); simp only [ea, gv, sv, reduceCtorEq, reduceIte, Nat.reduceBEq, Nat.reduceAdd, Nat.reduceEqDiff, Nat.reduceLT, Nat.reduceLeDiff, Nat.reduceMul, Nat.reduceSub, BEq.rfl, beq_self_eq_true, Int.reduceToNat]
  (refine hK _ ?_)
  clear hK K
  refine AWP.cond rfl (fun hb => ?_) (fun hb => ?_)
  · (simp only [hb, cond_true] at hR)
    refine AWP.seq ?_
    refine AWP.regS G_ok laws_eqEntry_DD hc (by kernel_rfl) (fun K hK => ?_); simp only [ea, gv, sv, reduceCtorEq, reduceIte, Nat.reduceBEq, Nat.reduceAdd, Nat.reduceEqDiff, Nat.reduceLT, Nat.reduceLeDiff, Nat.reduceMul, Nat.reduceSub, BEq.rfl, beq_self_eq_true, Int.reduceToNat]
    (refine hK _ ?_)
    clear hK K
    refine AWP.ret ?_
    subst hR
    (simp only [en, si, ea, gv, sv, hk, reduceCtorEq, reduceIte, Nat.reduceBEq, Nat.reduceAdd, Nat.reduceEqDiff, Nat.reduceLT, Nat.reduceLeDiff, Nat.reduceMul, Nat.reduceSub, BEq.rfl, beq_self_eq_true, Int.reduceToNat]; done)
  · (simp only [hb, cond_false] at hR)
    refine AWP.skip ?_
    refine AWP.seq ?_
    refine AWP.seq ?_
    refine AWP.regS G_ok laws_eqEntry_DD hc (by kernel_rfl) (fun K hK => ?_); simp only [ea, gv, sv, reduceCtorEq, reduceIte, Nat.reduceBEq, Nat.reduceAdd, Nat.reduceEqDiff, Nat.reduceLT, Nat.reduceLeDiff, Nat.reduceMul, Nat.reduceSub, BEq.rfl, beq_self_eq_true, Int.reduceToNat]
    (refine hK _ ?_)
    clear hK K
    refine AWP.cond rfl (fun hb => ?_) (fun hb => ?_)
    · (simp only [hb, cond_true] at hR)
      refine AWP.seq ?_
      refine AWP.regS G_ok laws_eqEntry_DD hc (by kernel_rfl) (fun K hK => ?_); simp only [ea, gv, sv, reduceCtorEq, reduceIte, Nat.reduceBEq, Nat.reduceAdd, Nat.reduceEqDiff, Nat.reduceLT, Nat.reduceLeDiff, Nat.reduceMul, Nat.reduceSub, BEq.rfl, beq_self_eq_true, Int.reduceToNat]
      (refine hK _ ?_)
      clear hK K
      refine AWP.ret ?_
      subst hR
      (simp only [en, si, ea, gv, sv, hk, reduceCtorEq, reduceIte, Nat.reduceBEq, Nat.reduceAdd, Nat.reduceEqDiff, Nat.reduceLT, Nat.reduceLeDiff, Nat.reduceMul, Nat.reduceSub, BEq.rfl, beq_self_eq_true, Int.reduceToNat]; done)
    · (simp only [hb, cond_false] at hR)
      refine AWP.skip ?_
      refine AWP.seq ?_
      refine AWP.seq ?_
      refine AWP.regS G_ok laws_eqEntry_DD hc (by kernel_rfl) (fun K hK => ?_); simp only [ea, gv, sv, reduceCtorEq, reduceIte, Nat.reduceBEq, Nat.reduceAdd, Nat.reduceEqDiff, Nat.reduceLT, Nat.reduceLeDiff, Nat.reduceMul, Nat.reduceSub, BEq.rfl, beq_self_eq_true, Int.reduceToNat]
      (refine hK _ ?_)
      clear hK K
      refine AWP.cond rfl (fun hb => ?_) (fun hb => ?_)
      · (simp only [hb, cond_true] at hR)
        refine AWP.seq ?_
        refine AWP.regS G_ok laws_eqEntry_DD hc (by kernel_rfl) (fun K hK => ?_); simp only [ea, gv, sv, reduceCtorEq, reduceIte, Nat.reduceBEq, Nat.reduceAdd, Nat.reduceEqDiff, Nat.reduceLT, Nat.reduceLeDiff, Nat.reduceMul, Nat.reduceSub, BEq.rfl, beq_self_eq_true, Int.reduceToNat]
        (refine hK _ ?_)
        clear hK K
        refine AWP.ret ?_
        subst hR
        (simp only [en, si, ea, gv, sv, hk, reduceCtorEq, reduceIte, Nat.reduceBEq, Nat.reduceAdd, Nat.reduceEqDiff, Nat.reduceLT, Nat.reduceLeDiff, Nat.reduceMul, Nat.reduceSub, BEq.rfl, beq_self_eq_true, Int.reduceToNat]; done)
      · (simp only [hb, cond_false] at hR)
        refine AWP.skip ?_
        refine AWP.seq ?_
        refine AWP.regS G_ok laws_eqEntry_DD hc (by kernel_rfl) (fun K hK => ?_); simp only [ea, gv, sv, reduceCtorEq, reduceIte, Nat.reduceBEq, Nat.reduceAdd, Nat.reduceEqDiff, Nat.reduceLT, Nat.reduceLeDiff, Nat.reduceMul, Nat.reduceSub, BEq.rfl, beq_self_eq_true, Int.reduceToNat]
        (refine hK _ ?_)
        clear hK K
        refine AWP.ret ?_
        subst hR
        (simp only [en, si, ea, gv, sv, hk, reduceCtorEq, reduceIte, Nat.reduceBEq, Nat.reduceAdd, Nat.reduceEqDiff, Nat.reduceLT, Nat.reduceLeDiff, Nat.reduceMul, Nat.reduceSub, BEq.rfl, beq_self_eq_true, Int.reduceToNat]; done)
def D_laws_eqEntry : DF
  | [x0, x1] => some (.bool (laws_eqEntry (rdG dEntry x0) (rdG dEntry x1)), false, [wG eEntry dEntry x0, wG eEntry dEntry x1])
  | _ => none
theorem D_laws_eqEntry_ok : OkD Try.prog 112 D_laws_eqEntry := by
  intro xs r z ob h ho
  unfold D_laws_eqEntry at h
  split at h
  · simp only [Option.some.injEq, Prod.mk.injEq] at h
    obtain ⟨rfl, rfl, rfl⟩ := h
    obtain ⟨h0, h1, _⟩ := ho
    exact Den.sim (laws_eqEntry_den _ _ ) (simOL_cons (wG_sim h0).1 <| simOL_cons (wG_sim h1).1 <| trivial) (noIdL_cons (wG_sim h0).2 <| noIdL_cons (wG_sim h1).2 <| rfl) rfl
  · cases h
end Go.Ab

namespace Go.Ab
open Go Go.Proofs
theorem laws_eqEntryS_DD : DOk Try.prog (DD [(112, dP D_laws_eqEntry)]) := DD_cons D_laws_eqEntry_ok.e <| DD_nil _
def laws_eqEntryS_b1 (a0 : (List Entry)) (a1 : (List Entry)) (i1 : Nat) (s1 : Unit) : Except (Bool) (Unit) :=
  (bif (!(laws_eqEntry (a0.getD i1 default) (a1.getD i1 default))) then .error false else .ok ())
def laws_eqEntryS (a0 : (List Entry)) (a1 : (List Entry)) : Bool :=
  (bif ((a0.length : Int) != (a1.length : Int)) then false else (match loopR (laws_eqEntryS_b1 a0 a1) (a0.length - 0) 0 () with | .error e => e | .ok s1 => true))
theorem laws_eqEntryS_den (a0 : (List Entry)) (a1 : (List Entry))  : Den Try.prog 60 [encL 3 eEntry a0, encL 3 eEntry a1] (.bool (laws_eqEntryS a0 a1)) := by
  generalize hR : laws_eqEntryS a0 a1 = r
  unfold laws_eqEntryS at hR
  refine den_intro G_ok Try.func60 (by kernel_rfl) rfl Try.ntmps60 (by rw [Try.results60]) (by simp) rfl ?_
  intro c hL hc hk
  obtain ⟨hL0, hL1, _⟩ := hL
  have hw0 : a0.length < 9223372036854775808 := Nat.lt_succ_of_le (lens_encL hL0).1
  have hw1 : ∀ v ∈ a0, bwEntry v := fun v hv => Entry_lens v ((lens_encL hL0).2 v hv)
  have hw2 : a1.length < 9223372036854775808 := Nat.lt_succ_of_le (lens_encL hL1).1
  have hw3 : ∀ v ∈ a1, bwEntry v := fun v hv => Entry_lens v ((lens_encL hL1).2 v hv)
  clear hL0 hL1
  simp only [pars, Nat.zero_add]
  refine AWP.seq ?_
  refine AWP.regS G_ok laws_eqEntryS_DD hc (by kernel_rfl) (fun K hK => ?_); simp only [ea, gv, sv, D_laws_eqEntry, reduceCtorEq, reduceIte, Nat.reduceBEq, Nat.reduceAdd, Nat.reduceEqDiff, Nat.reduceLT, Nat.reduceLeDiff, Nat.reduceMul, Nat.reduceSub, BEq.rfl, beq_self_eq_true, Int.reduceToNat]
  (refine hK _ ?_)
  clear hK K
  refine AWP.seq ?_
  refine AWP.seq ?_
  refine AWP.regS G_ok laws_eqEntryS_DD hc (by kernel_rfl) (fun K hK => ?_); simp only [ea, gv, sv, D_laws_eqEntry, reduceCtorEq, reduceIte, Nat.reduceBEq, Nat.reduceAdd, Nat.reduceEqDiff, Nat.reduceLT, Nat.reduceLeDiff, Nat.reduceMul, Nat.reduceSub, BEq.rfl, beq_self_eq_true, Int.reduceToNat]
  (refine hK _ ?_)
  clear hK K
  refine AWP.cond rfl (fun hb => ?_) (fun hb => ?_)
  · (simp only [hb, cond_true] at hR)
    refine AWP.seq ?_
    refine AWP.regS G_ok laws_eqEntryS_DD hc (by kernel_rfl) (fun K hK => ?_); simp only [ea, gv, sv, D_laws_eqEntry, reduceCtorEq, reduceIte, Nat.reduceBEq, Nat.reduceAdd, Nat.reduceEqDiff, Nat.reduceLT, Nat.reduceLeDiff, Nat.reduceMul, Nat.reduceSub, BEq.rfl, beq_self_eq_true, Int.reduceToNat]
    (refine hK _ ?_)
    clear hK K
    refine AWP.ret ?_
    subst hR
    (simp only [en, si, ea, gv, sv, hk, reduceCtorEq, reduceIte, Nat.reduceBEq, Nat.reduceAdd, Nat.reduceEqDiff, Nat.reduceLT, Nat.reduceLeDiff, Nat.reduceMul, Nat.reduceSub, BEq.rfl, beq_self_eq_true, Int.reduceToNat]; done)
  · (simp only [hb, cond_false] at hR)
    refine AWP.skip ?_
    refine AWP.seq ?_
    refine AWP.seq ?_
    refine AWP.regS G_ok laws_eqEntryS_DD hc (by kernel_rfl) (fun K hK => ?_); simp only [ea, gv, sv, D_laws_eqEntry, reduceCtorEq, reduceIte, Nat.reduceBEq, Nat.reduceAdd, Nat.reduceEqDiff, Nat.reduceLT, Nat.reduceLeDiff, Nat.reduceMul, Nat.reduceSub, BEq.rfl, beq_self_eq_true, Int.reduceToNat]
    (refine hK _ ?_)
    clear hK K
    refine AWP.block ?_
    generalize hz1 : loopR (laws_eqEntryS_b1 a0 a1) (a0.length - 0) 0 () = z1 at hR
    refine AWP.range (laws_eqEntryS_b1 a0 a1) (fun i1 s1 => ⟨[(0, encL 3 eEntry a0), (1, encL 3 eEntry a1), (5, .int .i64 (i1 : Int))], []⟩) (fun i1 s1 => True) (a0.length) 0 () [] hz1 (by (omega)) (by (trivial)) (by (simp only [si, ea, gv, sv, hk, reduceCtorEq, reduceIte, Nat.reduceBEq, Nat.reduceAdd, Nat.reduceEqDiff, Nat.reduceLT, Nat.reduceLeDiff, Nat.reduceMul, Nat.reduceSub, BEq.rfl, beq_self_eq_true, Int.reduceToNat]; trivial)) ?_
    clear hz1
    intro i1 s1 hi1 hW1 hz1
    refine AWP.seq ?_
    refine AWP.seq ?_
    refine AWP.regS G_ok laws_eqEntryS_DD hc (by kernel_rfl) (fun K hK => ?_); simp only [ea, gv, sv, D_laws_eqEntry, reduceCtorEq, reduceIte, Nat.reduceBEq, Nat.reduceAdd, Nat.reduceEqDiff, Nat.reduceLT, Nat.reduceLeDiff, Nat.reduceMul, Nat.reduceSub, BEq.rfl, beq_self_eq_true, Int.reduceToNat]
    (refine hK _ ?_)
    clear hK K
    refine AWP.cond rfl (fun hb => ?_) (fun hb => ?_)
    · have hlt1 : i1 < a0.length := by ((simp only [ob, ln, bdv, sv] at *; omega))
      rw [loopR_lt hlt1] at hz1; simp only [laws_eqEntryS_b1] at hz1
      refine AWP.skip ?_
      refine AWP.seq ?_
      refine AWP.block ?_
      refine AWP.seq ?_
      refine AWP.regD mixed G_ok laws_eqEntryS_DD hc 8 (by kernel_rfl) (by kernel_rfl) (fun K hK => ?_); simp only [ea, gv, sv, D_laws_eqEntry, reduceCtorEq, reduceIte, Nat.reduceBEq, Nat.reduceAdd, Nat.reduceEqDiff, Nat.reduceLT, Nat.reduceLeDiff, Nat.reduceMul, Nat.reduceSub, BEq.rfl, beq_self_eq_true, Int.reduceToNat]
      (refine ⟨by ((simp only [ob, ln, bdv, sv] at *; omega)), hK _ ?_⟩)
      clear hK K
      refine AWP.cond rfl (fun hb => ?_) (fun hb => ?_)
      · (simp only [hb, cond_true] at hz1)
        refine AWP.seq ?_
        refine AWP.regS G_ok laws_eqEntryS_DD hc (by kernel_rfl) (fun K hK => ?_); simp only [ea, gv, sv, D_laws_eqEntry, reduceCtorEq, reduceIte, Nat.reduceBEq, Nat.reduceAdd, Nat.reduceEqDiff, Nat.reduceLT, Nat.reduceLeDiff, Nat.reduceMul, Nat.reduceSub, BEq.rfl, beq_self_eq_true, Int.reduceToNat]
        (refine hK _ ?_)
        clear hK K
        refine AWP.ret ?_
        subst hz1
        dsimp only at hR
        subst hR
        (simp only [en, si, ea, gv, sv, hk, reduceCtorEq, reduceIte, Nat.reduceBEq, Nat.reduceAdd, Nat.reduceEqDiff, Nat.reduceLT, Nat.reduceLeDiff, Nat.reduceMul, Nat.reduceSub, BEq.rfl, beq_self_eq_true, Int.reduceToNat]; done)
      · (simp only [hb, cond_false] at hz1)
        refine AWP.skip ?_
        refine AWP.regS G_ok laws_eqEntryS_DD hc (by kernel_rfl) (fun K hK => ?_); simp only [ea, gv, sv, D_laws_eqEntry, reduceCtorEq, reduceIte, Nat.reduceBEq, Nat.reduceAdd, Nat.reduceEqDiff, Nat.reduceLT, Nat.reduceLeDiff, Nat.reduceMul, Nat.reduceSub, BEq.rfl, beq_self_eq_true, Int.reduceToNat]
        (refine hK _ ?_)
        clear hK K
        exact ⟨_, [], hlt1, by (trivial), hz1, by (simp only [si, ea, gv, sv, hk, reduceCtorEq, reduceIte, Nat.reduceBEq, Nat.reduceAdd, Nat.reduceEqDiff, Nat.reduceLT, Nat.reduceLeDiff, Nat.reduceMul, Nat.reduceSub, BEq.rfl, beq_self_eq_true, Int.reduceToNat]; (and_intros <;> first | trivial | (rw [IntKind.wrap_i64]; omega)))⟩
    · obtain rfl : i1 = a0.length := by ((simp only [ob, ln, bdv, sv] at *; omega))
      rw [loopR_ge (Nat.le_refl _)] at hz1; subst hz1; dsimp only at hR
      refine AWP.exit ?_; refine exitTo_here ?_
      refine AWP.seq ?_
      refine AWP.regS G_ok laws_eqEntryS_DD hc (by kernel_rfl) (fun K hK => ?_); simp only [ea, gv, sv, D_laws_eqEntry, reduceCtorEq, reduceIte, Nat.reduceBEq, Nat.reduceAdd, Nat.reduceEqDiff, Nat.reduceLT, Nat.reduceLeDiff, Nat.reduceMul, Nat.reduceSub, BEq.rfl, beq_self_eq_true, Int.reduceToNat]
      (refine hK _ ?_)
      clear hK K
      refine AWP.ret ?_
      subst hR
      (simp only [en, si, ea, gv, sv, hk, reduceCtorEq, reduceIte, Nat.reduceBEq, Nat.reduceAdd, Nat.reduceEqDiff, Nat.reduceLT, Nat.reduceLeDiff, Nat.reduceMul, Nat.reduceSub, BEq.rfl, beq_self_eq_true, Int.reduceToNat]; done)
def D_laws_eqEntryS : DF
  | [x0, x1] => some (.bool (laws_eqEntryS (rdL dEntry x0) (rdL dEntry x1)), false, [wL 3 eEntry dEntry x0, wL 3 eEntry dEntry x1])
  | _ => none
theorem D_laws_eqEntryS_ok : OkD Try.prog 60 D_laws_eqEntryS := by
  intro xs r z ob h ho
  unfold D_laws_eqEntryS at h
  split at h
  · simp only [Option.some.injEq, Prod.mk.injEq] at h
    obtain ⟨rfl, rfl, rfl⟩ := h
    obtain ⟨h0, h1, _⟩ := ho
    exact Den.sim (laws_eqEntryS_den _ _ ) (simOL_cons (wL_sim h0).1 <| simOL_cons (wL_sim h1).1 <| trivial) (noIdL_cons (wL_sim h0).2 <| noIdL_cons (wL_sim h1).2 <| rfl) rfl
  · cases h
end Go.Ab

namespace Go.Ab
open Go Go.Proofs
theorem laws_eqEntry_dec (a b : Entry) : laws_eqEntry a b = decide (a = b) := by
  unfold laws_eqEntry
  by_cases h : a = b
  · subst h; simp
  · rw [decide_eq_false h]
    cases a; cases b
    simp only [Entry.mk.injEq] at h
    simp only [bne_iff_ne, Bool.cond_eq_ite, ite_eq_right_iff]
    (repeat' split) <;> simp_all
theorem laws_eqEntryS_dec (a b : List Entry) : laws_eqEntryS a b = decide (a = b) := by
  unfold laws_eqEntryS
  by_cases hl : a.length = b.length
  · have h1 : ((a.length : Int) != (b.length : Int)) = false := by simp [hl]
    rw [h1, cond_false, loopR_any (b := laws_eqEntryS_b1 a b) (fun j => !decide (a.getD j default = b.getD j default)) false (fun j u _ _ => by simp only [laws_eqEntryS_b1, laws_eqEntry_dec])]
    simp only [Nat.sub_zero, Nat.zero_add]
    rw [any_ne a b hl]
    by_cases h : a = b <;> simp [h]
  · have h1 : ((a.length : Int) != (b.length : Int)) = true := by simp; omega
    have h2 : ¬ a = b := fun e => hl (by rw [e])
    rw [h1, cond_true, decide_eq_false h2]
end Go.Ab

namespace Go.Ab
open Go Go.Proofs
theorem spec_l29Find_DD : DOk Try.prog (DD []) := DD_nil _
def spec_l29Find_b1 (a0 : Store) (a1 : (List UInt8)) (i1 : Nat) (s1 : Unit) : Except (Int) (Unit) :=
  (bif (((a0.Spares.getD i1 default).Name) == a1) then .error (i1 : Int) else .ok ())
def spec_l29Find (a0 : Store) (a1 : (List UInt8)) : Int :=
  (match loopR (spec_l29Find_b1 a0 a1) (a0.Spares.length - 0) 0 () with | .error e => e | .ok s1 => (-1))
theorem spec_l29Find_den (a0 : Store) (a1 : (List UInt8))  : Den Try.prog 90 [.ep (eStore a0), .str a1] (.int .i64 (spec_l29Find a0 a1)) := by
  generalize hR : spec_l29Find a0 a1 = r
  unfold spec_l29Find at hR
  refine den_intro G_ok Try.func90 (by kernel_rfl) rfl Try.ntmps90 (by rw [Try.results90]) (by simp) rfl ?_
  intro c hL hc hk
  obtain ⟨hL0, hL1, _⟩ := hL
  have hw0 : bwStore a0 := Store_lens a0 hL0
  have hw1 : a1.length < 9223372036854775808 := Nat.lt_succ_of_le hL1
  clear hL0 hL1
  simp only [pars, Nat.zero_add]
  refine AWP.seq ?_
  refine AWP.regS G_ok spec_l29Find_DD hc (by kernel_rfl) (fun K hK => ?_); simp only [ea, gv, sv, reduceCtorEq, reduceIte, Nat.reduceBEq, Nat.reduceAdd, Nat.reduceEqDiff, Nat.reduceLT, Nat.reduceLeDiff, Nat.reduceMul, Nat.reduceSub, BEq.rfl, beq_self_eq_true, Int.reduceToNat]
  (refine hK _ ?_)
  clear hK K
  refine AWP.seq ?_
  refine AWP.seq ?_
  refine AWP.regS G_ok spec_l29Find_DD hc (by kernel_rfl) (fun K hK => ?_); simp only [ea, gv, sv, reduceCtorEq, reduceIte, Nat.reduceBEq, Nat.reduceAdd, Nat.reduceEqDiff, Nat.reduceLT, Nat.reduceLeDiff, Nat.reduceMul, Nat.reduceSub, BEq.rfl, beq_self_eq_true, Int.reduceToNat]
  (refine hK _ ?_)
  clear hK K
  refine AWP.block ?_
  generalize hz1 : loopR (spec_l29Find_b1 a0 a1) (a0.Spares.length - 0) 0 () = z1 at hR
  refine AWP.range (spec_l29Find_b1 a0 a1) (fun i1 s1 => ⟨[(0, .ep (eStore a0)), (1, .str a1), (5, .int .i64 (i1 : Int))], []⟩) (fun i1 s1 => True) (a0.Spares.length) 0 () [] hz1 (by (omega)) (by (trivial)) (by (simp only [si, ea, gv, sv, hk, reduceCtorEq, reduceIte, Nat.reduceBEq, Nat.reduceAdd, Nat.reduceEqDiff, Nat.reduceLT, Nat.reduceLeDiff, Nat.reduceMul, Nat.reduceSub, BEq.rfl, beq_self_eq_true, Int.reduceToNat]; trivial)) ?_
  clear hz1
  intro i1 s1 hi1 hW1 hz1
  refine AWP.seq ?_
  refine AWP.seq ?_
  refine AWP.regS G_ok spec_l29Find_DD hc (by kernel_rfl) (fun K hK => ?_); simp only [ea, gv, sv, reduceCtorEq, reduceIte, Nat.reduceBEq, Nat.reduceAdd, Nat.reduceEqDiff, Nat.reduceLT, Nat.reduceLeDiff, Nat.reduceMul, Nat.reduceSub, BEq.rfl, beq_self_eq_true, Int.reduceToNat]
  (refine hK _ ?_)
  clear hK K
  refine AWP.cond rfl (fun hb => ?_) (fun hb => ?_)
  · have hlt1 : i1 < a0.Spares.length := by ((simp only [ob, ln, bdv, sv] at *; omega))
    rw [loopR_lt hlt1] at hz1; simp only [spec_l29Find_b1] at hz1
    refine AWP.skip ?_
    refine AWP.seq ?_
    refine AWP.block ?_
    refine AWP.seq ?_
    refine AWP.regS G_ok spec_l29Find_DD hc (by kernel_rfl) (fun K hK => ?_); simp only [ea, gv, sv, reduceCtorEq, reduceIte, Nat.reduceBEq, Nat.reduceAdd, Nat.reduceEqDiff, Nat.reduceLT, Nat.reduceLeDiff, Nat.reduceMul, Nat.reduceSub, BEq.rfl, beq_self_eq_true, Int.reduceToNat]
    (refine ⟨by (omega), hK _ ?_⟩)
    clear hK K
    refine AWP.cond rfl (fun hb => ?_) (fun hb => ?_)
    · (simp only [hb, cond_true] at hz1)
      refine AWP.seq ?_
      refine AWP.regS G_ok spec_l29Find_DD hc (by kernel_rfl) (fun K hK => ?_); simp only [ea, gv, sv, reduceCtorEq, reduceIte, Nat.reduceBEq, Nat.reduceAdd, Nat.reduceEqDiff, Nat.reduceLT, Nat.reduceLeDiff, Nat.reduceMul, Nat.reduceSub, BEq.rfl, beq_self_eq_true, Int.reduceToNat]
      (refine hK _ ?_)
      clear hK K
      refine AWP.ret ?_
      subst hz1
      dsimp only at hR
      subst hR
      (simp only [en, si, ea, gv, sv, hk, reduceCtorEq, reduceIte, Nat.reduceBEq, Nat.reduceAdd, Nat.reduceEqDiff, Nat.reduceLT, Nat.reduceLeDiff, Nat.reduceMul, Nat.reduceSub, BEq.rfl, beq_self_eq_true, Int.reduceToNat]; done)
    · (simp only [hb, cond_false] at hz1)
      refine AWP.skip ?_
      refine AWP.regS G_ok spec_l29Find_DD hc (by kernel_rfl) (fun K hK => ?_); simp only [ea, gv, sv, reduceCtorEq, reduceIte, Nat.reduceBEq, Nat.reduceAdd, Nat.reduceEqDiff, Nat.reduceLT, Nat.reduceLeDiff, Nat.reduceMul, Nat.reduceSub, BEq.rfl, beq_self_eq_true, Int.reduceToNat]
      (refine hK _ ?_)
      clear hK K
      exact ⟨_, [], hlt1, by (trivial), hz1, by (simp only [si, ea, gv, sv, hk, reduceCtorEq, reduceIte, Nat.reduceBEq, Nat.reduceAdd, Nat.reduceEqDiff, Nat.reduceLT, Nat.reduceLeDiff, Nat.reduceMul, Nat.reduceSub, BEq.rfl, beq_self_eq_true, Int.reduceToNat]; (and_intros <;> first | trivial | (simp only [ob, ln, bdv, sv] at *; omega)))⟩
  · obtain rfl : i1 = a0.Spares.length := by ((simp only [ob, ln, bdv, sv] at *; omega))
    rw [loopR_ge (Nat.le_refl _)] at hz1; subst hz1; dsimp only at hR
    refine AWP.exit ?_; refine exitTo_here ?_
    refine AWP.seq ?_
    refine AWP.regS G_ok spec_l29Find_DD hc (by kernel_rfl) (fun K hK => ?_); simp only [ea, gv, sv, reduceCtorEq, reduceIte, Nat.reduceBEq, Nat.reduceAdd, Nat.reduceEqDiff, Nat.reduceLT, Nat.reduceLeDiff, Nat.reduceMul, Nat.reduceSub, BEq.rfl, beq_self_eq_true, Int.reduceToNat]
    (refine hK _ ?_)
    clear hK K
    refine AWP.ret ?_
    subst hR
    (simp only [en, si, ea, gv, sv, hk, reduceCtorEq, reduceIte, Nat.reduceBEq, Nat.reduceAdd, Nat.reduceEqDiff, Nat.reduceLT, Nat.reduceLeDiff, Nat.reduceMul, Nat.reduceSub, BEq.rfl, beq_self_eq_true, Int.reduceToNat]; done)
def D_spec_l29Find : DF
  | [x0, x1] => some (.int .i64 (spec_l29Find (rdP dStore x0) (rdS x1)), false, [wP eStore dStore x0, wS x1])
  | _ => none
theorem D_spec_l29Find_ok : OkD Try.prog 90 D_spec_l29Find := by
  intro xs r z ob h ho
  unfold D_spec_l29Find at h
  split at h
  · simp only [Option.some.injEq, Prod.mk.injEq] at h
    obtain ⟨rfl, rfl, rfl⟩ := h
    obtain ⟨h0, h1, _⟩ := ho
    exact Den.sim (spec_l29Find_den _ _ ) (simOL_cons (wP_sim h0).1 <| simOL_cons (wS_sim h1).1 <| trivial) (noIdL_cons (wP_sim h0).2 <| noIdL_cons (wS_sim h1).2 <| rfl) rfl
  · cases h
end Go.Ab

namespace Go.Ab
open Go Go.Proofs
def loopL {α ρ σ : Type} (g : α → σ → Except ρ σ) : List α → σ → Except ρ σ
  | [], s => .ok s
  | x :: t, s => match g x s with
    | .error r => .error r
    | .ok s' => loopL g t s'
theorem loopL_cons {α ρ σ : Type} (g : α → σ → Except ρ σ) (x : α) (t : List α) (s : σ) : loopL g (x :: t) s = match g x s with
    | .error r => .error r
    | .ok s' => loopL g t s' := rfl
theorem loopR_list {α ρ σ : Type} [Inhabited α] {b : Nat → σ → Except ρ σ} (g : α → σ → Except ρ σ) (l : List α) : ∀ (k i : Nat) (s : σ), i + k = l.length → (∀ j u, i ≤ j → j < l.length → b j u = g (l.getD j default) u) → loopR b k i s = loopL g (l.drop i) s
  | 0, i, s, h, _ => by rw [List.drop_eq_nil_of_le (by omega)]; rfl
  | k + 1, i, s, h, hb => by
    have hi : i < l.length := by omega
    rw [List.drop_eq_getElem_cons hi]
    simp only [loopR, loopL]
    rw [hb i s (Nat.le_refl _) hi, List.getD_eq_getElem?_getD, List.getElem?_eq_getElem hi, Option.getD_some]
    cases g l[i] s with
    | error r => rfl
    | ok s' => exact loopR_list g l k (i + 1) s' (by omega) (fun j u h1 h2 => hb j u (by omega) h2)
theorem loopR_list0 {α ρ σ : Type} [Inhabited α] {b : Nat → σ → Except ρ σ} (g : α → σ → Except ρ σ) (l : List α) (s : σ) (hb : ∀ j u, j < l.length → b j u = g (l.getD j default) u) : loopR b (l.length - 0) 0 s = loopL g l s := by
  rw [loopR_list g l (l.length - 0) 0 s (by omega) (fun j u _ h => hb j u h), List.drop_zero]
theorem loopR_all {ρ : Type} {b : Nat → Unit → Except ρ Unit} (p : Nat → Bool) (r : ρ) (n : Nat) (hb : ∀ j u, j < n → b j u = bif p j then .error r else .ok ()) :
    ((∀ q, q < n → p q = false) ∧ loopR b (n - 0) 0 () = .ok ()) ∨ ((∃ q, q < n ∧ p q = true) ∧ loopR b (n - 0) 0 () = .error r) := by
  rcases loopR_first (b := b) p (fun _ => r) (k := n - 0) (i := 0) (s := ()) (fun j u _ h => hb j u (by omega)) with ⟨j, h1, h2, h3, h4, h5⟩ | ⟨h1, h2⟩
  · exact .inr ⟨⟨j, by omega, h3⟩, h5⟩
  · exact .inl ⟨fun q hq => h1 q (by omega) (by omega), h2⟩
theorem loopW_upto {ρ : Type} {b : Int → Except (Sum ρ Int) Int} (p : Nat → Bool) (n : Nat) (hb : ∀ j : Nat, j ≤ n → b (j : Int) = bif (decide (j < n) && p j) then .ok ((j + 1 : Nat) : Int) else .error (.inr (j : Int))) :
    ∀ (f i : Nat), i ≤ n → n - i < f → ∃ j, i ≤ j ∧ j ≤ n ∧ (∀ q, i ≤ q → q < j → p q = true) ∧ (j = n ∨ p j = false) ∧ loopW b f (i : Int) = .error (.inr (j : Int))
  | 0, i, h1, h2 => by omega
  | f + 1, i, h1, h2 => by
    simp only [loopW, hb i h1]
    cases hc : (decide (i < n) && p i) with
    | false =>
      refine ⟨i, Nat.le_refl _, h1, fun q a b => by omega, ?_, rfl⟩
      by_cases hi : i < n
      · right; simpa [hi] using hc
      · left; omega
    | true =>
      simp only [Bool.and_eq_true, decide_eq_true_eq] at hc
      obtain ⟨j, g1, g2, g3, g4, g5⟩ := loopW_upto p n hb f (i + 1) hc.1 (by omega)
      refine ⟨j, by omega, g2, fun q a b => ?_, g4, by simpa using g5⟩
      by_cases hq : q = i
      · rw [hq]; exact hc.2
      · exact g3 q (by omega) b
theorem getD_map {α β : Type} [Inhabited α] [Inhabited β] (f : α → β) (l : List α) (i : Nat) (h : i < l.length) : (l.map f).getD i default = f (l.getD i default) := by
  simp [List.getD_eq_getElem?_getD, h]
theorem wrap_nat {j n : Nat} (h : j < n) (hn : n < 9223372036854775808) : IntKind.wrap .i64 ((j : Int) + 1) = ((j + 1 : Nat) : Int) := by
  rw [IntKind.wrap_i64]; omega
theorem wrap_pred {j : Nat} (h : 0 < j) (hn : j < 9223372036854775808) : (IntKind.wrap .i64 ((j : Int) - 1)).toNat = j - 1 := by
  rw [IntKind.wrap_i64]; omega
theorem less_irrefl : ∀ a : List UInt8, Op.bytesLess a a = false
  | [] => rfl
  | x :: a => by simp [Op.bytesLess, less_irrefl a]
theorem less_trans : ∀ a b c : List UInt8, Op.bytesLess a b = true → Op.bytesLess b c = true → Op.bytesLess a c = true
  | _, _, [], _, h => by simp [Op.bytesLess] at h
  | _, [], _ :: _, h, _ => by simp [Op.bytesLess] at h
  | [], _ :: _, _ :: _, _, _ => rfl
  | x :: a, y :: b, z :: c, h1, h2 => by
    simp only [Op.bytesLess, Bool.or_eq_true, Bool.and_eq_true, decide_eq_true_eq, beq_iff_eq] at h1 h2 ⊢
    rcases h1 with h1 | ⟨h1, h1'⟩ <;> rcases h2 with h2 | ⟨h2, h2'⟩
    · left; exact UInt8.lt_trans h1 h2
    · left; rw [← h2]; exact h1
    · left; rw [h1]; exact h2
    · right; exact ⟨h1.trans h2, less_trans a b c h1' h2'⟩
theorem less_total : ∀ a b : List UInt8, Op.bytesLess a b = false → a ≠ b → Op.bytesLess b a = true
  | [], [], _, h => absurd rfl h
  | x :: a, [], _, _ => rfl
  | [], y :: b, h, _ => by simp [Op.bytesLess] at h
  | x :: a, y :: b, h, hn => by
    simp only [Op.bytesLess, Bool.or_eq_false_iff, Bool.and_eq_false_iff, decide_eq_false_iff_not, beq_eq_false_iff_ne] at h
    simp only [Op.bytesLess, Bool.or_eq_true, Bool.and_eq_true, decide_eq_true_eq, beq_iff_eq]
    obtain ⟨h1, h2⟩ := h
    by_cases hxy : x = y
    · right
      refine ⟨hxy.symm, less_total a b ?_ (fun he => hn (by rw [hxy, he]))⟩
      rcases h2 with h2 | h2
      · exact absurd hxy h2
      · exact h2
    · left
      have : y ≤ x := UInt8.not_lt.1 h1
      exact UInt8.lt_of_le_of_ne this (fun e => hxy e.symm)
end Go.Ab

namespace Go.Ab
open Go Go.Proofs
theorem spec_l29Find_spec (a : Store) (k : List UInt8) : (∃ j : Nat, j < a.Spares.length ∧ (a.Spares.getD j default).Name = k ∧ (∀ q, q < j → (a.Spares.getD q default).Name ≠ k) ∧ spec_l29Find a k = (j : Int)) ∨
    ((∀ q, q < a.Spares.length → (a.Spares.getD q default).Name ≠ k) ∧ spec_l29Find a k = -1) := by
  unfold spec_l29Find
  rcases loopR_first (b := spec_l29Find_b1 a k) (fun j => ((a.Spares.getD j default).Name == k)) (fun j => (j : Int)) (k := a.Spares.length - 0) (i := 0) (s := ()) (fun j u _ _ => by simp only [spec_l29Find_b1]) with ⟨j, _, h2, h3, h4, h5⟩ | ⟨h1, h2⟩
  · refine .inl ⟨j, by omega, by simpa using h3, fun q hq => by simpa using h4 q (by omega) hq, ?_⟩
    rw [h5]
  · refine .inr ⟨fun q hq => by simpa using h1 q (by omega) (by omega), ?_⟩
    rw [h2]
theorem spec_l29Find_lt (a : Store) (k : List UInt8) : -1 ≤ spec_l29Find a k ∧ (0 ≤ spec_l29Find a k → spec_l29Find a k < a.Spares.length) := by
  rcases spec_l29Find_spec a k with ⟨j, g1, _, _, g2⟩ | ⟨_, g2⟩
  · rw [g2]; omega
  · rw [g2]; omega
end Go.Ab
