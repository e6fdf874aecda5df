/- A part of a proof: walks of functions and lemmas of our own. No conditions. -/
import Derived.Test.YtphjpngpmhammaaTAj
import Derived.Test.YtphjpngpmhammaaTAm
import Derived.Test.YtphjpngpmhammaaTAh
import Derived.Test.YtphjpngpmhammaaTAl
set_option linter.unusedSectionVars false
set_option linter.unusedVariables false
set_option linter.unusedSimpArgs false
namespace Go.Ab
open Go Go.Proofs
theorem laws_toStore_DD : DOk Try.prog (DD [(58, dP D_laws_toEntryS), (64, dP D_laws_toSpareS)]) := DD_cons D_laws_toEntryS_ok.e <| DD_cons D_laws_toSpareS_ok.e <| DD_nil _
def laws_toStore (a0 : Store) : Store :=
  { Spares := (laws_toSpareS a0.Spares), Entries := (laws_toEntryS a0.Entries) : Store }
theorem laws_toStore_den (a0 : Store) (hb0 : bdStore a0) : Den Try.prog 17 [.agg (eStore a0)] (.agg (eStoreO (laws_toStore a0))) := by
  generalize hR : laws_toStore a0 = r
  unfold laws_toStore at hR
  refine den_intro G_ok Try.func17 (by kernel_rfl) rfl Try.ntmps17 (by rw [Try.results17]) (by simp) rfl ?_
  intro c hL hc hk
  obtain ⟨hL0, _⟩ := hL
  have hw0 : bwStore a0 := Store_lens a0 hL0
  clear hL0
  simp only [pars, Nat.zero_add]
  refine AWP.seq ?_
  refine AWP.regS G_ok laws_toStore_DD hc (by kernel_rfl) (fun K hK => ?_); simp only [ea, gv, sv, D_laws_toEntryS, D_laws_toSpareS, reduceCtorEq, reduceIte, Nat.reduceBEq, Nat.reduceAdd, Nat.reduceEqDiff, Nat.reduceLT, Nat.reduceLeDiff, Nat.reduceMul, Nat.reduceSub, BEq.rfl, beq_self_eq_true, Int.reduceToNat]
  (refine hK _ ?_)
  clear hK K
  refine AWP.seq ?_
  refine AWP.regS G_ok laws_toStore_DD hc (by kernel_rfl) (fun K hK => ?_); simp only [ea, gv, sv, D_laws_toEntryS, D_laws_toSpareS, reduceCtorEq, reduceIte, Nat.reduceBEq, Nat.reduceAdd, Nat.reduceEqDiff, Nat.reduceLT, Nat.reduceLeDiff, Nat.reduceMul, Nat.reduceSub, BEq.rfl, beq_self_eq_true, Int.reduceToNat]
  (refine hK _ ?_)
  clear hK K
  refine AWP.seq ?_
  refine AWP.regS G_ok laws_toStore_DD hc (by kernel_rfl) (fun K hK => ?_); simp only [ea, gv, sv, D_laws_toEntryS, D_laws_toSpareS, reduceCtorEq, reduceIte, Nat.reduceBEq, Nat.reduceAdd, Nat.reduceEqDiff, Nat.reduceLT, Nat.reduceLeDiff, Nat.reduceMul, Nat.reduceSub, BEq.rfl, beq_self_eq_true, Int.reduceToNat]
  (refine ⟨by (((try clear hK K); (repeat' first | apply And.intro | intro _) <;> (simp only [ob, ln, bdv, laws_toEntryS_id, laws_toSpareS_id, sv] at *; first | omega | (simp_all; done)))), hK _ ?_⟩)
  clear hK K
  refine AWP.seq ?_
  refine AWP.regS G_ok laws_toStore_DD hc (by kernel_rfl) (fun K hK => ?_); simp only [ea, gv, sv, D_laws_toEntryS, D_laws_toSpareS, reduceCtorEq, reduceIte, Nat.reduceBEq, Nat.reduceAdd, Nat.reduceEqDiff, Nat.reduceLT, Nat.reduceLeDiff, Nat.reduceMul, Nat.reduceSub, BEq.rfl, beq_self_eq_true, Int.reduceToNat]
  (refine ⟨by (((try clear hK K); (repeat' first | apply And.intro | intro _) <;> (simp only [ob, ln, bdv, laws_toEntryS_id, laws_toSpareS_id, sv] at *; first | omega | (simp_all; done)))), hK _ ?_⟩)
  clear hK K
  refine AWP.seq ?_
  refine AWP.regS G_ok laws_toStore_DD hc (by kernel_rfl) (fun K hK => ?_); simp only [ea, gv, sv, D_laws_toEntryS, D_laws_toSpareS, reduceCtorEq, reduceIte, Nat.reduceBEq, Nat.reduceAdd, Nat.reduceEqDiff, Nat.reduceLT, Nat.reduceLeDiff, Nat.reduceMul, Nat.reduceSub, BEq.rfl, beq_self_eq_true, Int.reduceToNat]
  (refine hK _ ?_)
  clear hK K
  refine AWP.ret ?_
  subst hR
  (simp only [en, si, ea, gv, sv, hk, reduceCtorEq, reduceIte, Nat.reduceBEq, Nat.reduceAdd, Nat.reduceEqDiff, Nat.reduceLT, Nat.reduceLeDiff, Nat.reduceMul, Nat.reduceSub, BEq.rfl, beq_self_eq_true, Int.reduceToNat]; (and_intros <;> omega))
def D_laws_toStore : DF
  | [x0] => some (.agg (eStoreO (laws_toStore (rdG dStore x0))), false, [wG eStore dStore x0, bdStore (rdG dStore x0)])
  | _ => none
def Dz_laws_toStore : DF
  | [x0] => some (.agg (eStoreO (laws_toStore (rdG dStore x0))), true, [wG eStore dStore x0, bdStore (rdG dStore x0)])
  | _ => none
theorem D_laws_toStore_ok : OkD Try.prog 17 D_laws_toStore := by
  intro xs r z ob h ho
  unfold D_laws_toStore at h
  split at h
  · simp only [Option.some.injEq, Prod.mk.injEq] at h
    obtain ⟨rfl, rfl, rfl⟩ := h
    obtain ⟨h0, hb0, _⟩ := ho
    exact Den.sim (laws_toStore_den _ hb0) (simOL_cons (wG_sim h0).1 <| trivial) (noIdL_cons (wG_sim h0).2 <| rfl) rfl
  · cases h
theorem Dz_laws_toStore_ok : OkD Try.prog 17 Dz_laws_toStore := by
  intro xs r z ob h ho
  unfold Dz_laws_toStore at h
  split at h
  · simp only [Option.some.injEq, Prod.mk.injEq] at h
    obtain ⟨rfl, rfl, rfl⟩ := h
    obtain ⟨h0, hb0, _⟩ := ho
    exact Den.sim (laws_toStore_den _ hb0) (simOL_cons (wG_sim h0).1 <| trivial) (noIdL_cons (wG_sim h0).2 <| rfl) rfl
  · cases h
end Go.Ab

namespace Go.Ab
open Go Go.Proofs
theorem laws_toStore_id (a : Store) : laws_toStore a = a := by
  unfold laws_toStore
  simp only [laws_toSpareS_id, laws_toEntryS_id]
end Go.Ab

namespace Go.Ab
open Go Go.Proofs
theorem laws_szEntry_DD : DOk Try.prog (DD []) := DD_nil _
def laws_szEntry (a0 : Entry) (a1 : Int) : Int :=
  (bif decide ((IntKind.wrap .i64 (a1 - (a0.Item.length : Int))) < 0) then (-1) else IntKind.wrap .i64 (a1 - (a0.Item.length : Int)))
theorem laws_szEntry_den (a0 : Entry) (a1 : Int) (hp0 : -1 ≤ a1) (hp1 : a1 ≤ 1048576) : Den Try.prog 53 [.agg (eEntry a0), .int .i64 a1] (.int .i64 (laws_szEntry a0 a1)) := by
  generalize hR : laws_szEntry a0 a1 = r
  unfold laws_szEntry at hR
  refine den_intro G_ok Try.func53 (by kernel_rfl) rfl Try.ntmps53 (by rw [Try.results53]) (by simp) rfl ?_
  intro c hL hc hk
  obtain ⟨hL0, hL1, _⟩ := hL
  have hw0 : bwEntry a0 := Entry_lens a0 hL0
  clear hL0 hL1
  simp only [pars, Nat.zero_add]
  refine AWP.seq ?_
  refine AWP.regS G_ok laws_szEntry_DD hc (by kernel_rfl) (fun K hK => ?_); simp only [ea, gv, sv, reduceCtorEq, reduceIte, Nat.reduceBEq, Nat.reduceAdd, Nat.reduceEqDiff, Nat.reduceLT, Nat.reduceLeDiff, Nat.reduceMul, Nat.reduceSub, BEq.rfl, beq_self_eq_true, Int.reduceToNat]
  (refine hK _ ?_)
  clear hK K
  refine AWP.seq ?_
  refine AWP.regS G_ok laws_szEntry_DD hc (by kernel_rfl) (fun K hK => ?_); simp only [ea, gv, sv, reduceCtorEq, reduceIte, Nat.reduceBEq, Nat.reduceAdd, Nat.reduceEqDiff, Nat.reduceLT, Nat.reduceLeDiff, Nat.reduceMul, Nat.reduceSub, BEq.rfl, beq_self_eq_true, Int.reduceToNat]
  (refine hK _ ?_)
  clear hK K
  refine AWP.seq ?_
  refine AWP.seq ?_
  refine AWP.regS G_ok laws_szEntry_DD hc (by kernel_rfl) (fun K hK => ?_); simp only [ea, gv, sv, reduceCtorEq, reduceIte, Nat.reduceBEq, Nat.reduceAdd, Nat.reduceEqDiff, Nat.reduceLT, Nat.reduceLeDiff, Nat.reduceMul, Nat.reduceSub, BEq.rfl, beq_self_eq_true, Int.reduceToNat]
  (refine hK _ ?_)
  clear hK K
  refine AWP.cond rfl (fun hb => ?_) (fun hb => ?_)
  · (simp only [hb, cond_true] at hR)
    refine AWP.seq ?_
    refine AWP.regS G_ok laws_szEntry_DD hc (by kernel_rfl) (fun K hK => ?_); simp only [ea, gv, sv, reduceCtorEq, reduceIte, Nat.reduceBEq, Nat.reduceAdd, Nat.reduceEqDiff, Nat.reduceLT, Nat.reduceLeDiff, Nat.reduceMul, Nat.reduceSub, BEq.rfl, beq_self_eq_true, Int.reduceToNat]
    (refine hK _ ?_)
    clear hK K
    refine AWP.ret ?_
    subst hR
    (simp only [en, si, ea, gv, sv, hk, reduceCtorEq, reduceIte, Nat.reduceBEq, Nat.reduceAdd, Nat.reduceEqDiff, Nat.reduceLT, Nat.reduceLeDiff, Nat.reduceMul, Nat.reduceSub, BEq.rfl, beq_self_eq_true, Int.reduceToNat]; done)
  · (simp only [hb, cond_false] at hR)
    refine AWP.skip ?_
    refine AWP.seq ?_
    refine AWP.regS G_ok laws_szEntry_DD hc (by kernel_rfl) (fun K hK => ?_); simp only [ea, gv, sv, reduceCtorEq, reduceIte, Nat.reduceBEq, Nat.reduceAdd, Nat.reduceEqDiff, Nat.reduceLT, Nat.reduceLeDiff, Nat.reduceMul, Nat.reduceSub, BEq.rfl, beq_self_eq_true, Int.reduceToNat]
    (refine hK _ ?_)
    clear hK K
    refine AWP.ret ?_
    subst hR
    (simp only [en, si, ea, gv, sv, hk, reduceCtorEq, reduceIte, Nat.reduceBEq, Nat.reduceAdd, Nat.reduceEqDiff, Nat.reduceLT, Nat.reduceLeDiff, Nat.reduceMul, Nat.reduceSub, BEq.rfl, beq_self_eq_true, Int.reduceToNat]; done)
def D_laws_szEntry : DF
  | [x0, x1] => some (.int .i64 (laws_szEntry (rdG dEntry x0) (rdI x1)), false, [wG eEntry dEntry x0, wI .i64 x1, -1 ≤ (rdI x1), (rdI x1) ≤ 1048576])
  | _ => none
theorem D_laws_szEntry_ok : OkD Try.prog 53 D_laws_szEntry := by
  intro xs r z ob h ho
  unfold D_laws_szEntry at h
  split at h
  · simp only [Option.some.injEq, Prod.mk.injEq] at h
    obtain ⟨rfl, rfl, rfl⟩ := h
    obtain ⟨h0, h1, hp0, hp1, _⟩ := ho
    exact Den.sim (laws_szEntry_den _ _ hp0 hp1) (simOL_cons (wG_sim h0).1 <| simOL_cons (wI_sim h1).1 <| trivial) (noIdL_cons (wG_sim h0).2 <| noIdL_cons (wI_sim h1).2 <| rfl) rfl
  · cases h
end Go.Ab

namespace Go.Ab
open Go Go.Proofs
theorem laws_szEntry_le (x : Entry) (n : Int) (h0 : -1 ≤ n) (h1 : n ≤ 1048576) (hx : bwEntry x) : -1 ≤ laws_szEntry x n ∧ laws_szEntry x n ≤ n := by
  have hx2 : x.Item.length < 9223372036854775808 := hx
  unfold laws_szEntry
  rw [IntKind.wrap_i64]
  cases hd : decide ((n - (x.Item.length : Int) + 9223372036854775808) % 18446744073709551616 - 9223372036854775808 < 0) with
  | true => simp; omega
  | false =>
    simp only [cond_false]
    have := of_decide_eq_false hd
    omega
theorem laws_szEntry_bd (x : Entry) (n : Int) (h0 : -1 ≤ n) (h1 : n ≤ 1048576) (hx : bwEntry x) (h : ¬ laws_szEntry x n < 0) : bdEntry x := by
  have hx2 : x.Item.length < 9223372036854775808 := hx
  unfold laws_szEntry at h
  rw [IntKind.wrap_i64] at h
  cases hd : decide ((n - (x.Item.length : Int) + 9223372036854775808) % 18446744073709551616 - 9223372036854775808 < 0) with
  | true => rw [hd] at h; simp at h
  | false =>
    have := of_decide_eq_false hd
    show x.Item.length < 1099511627776
    omega
theorem laws_szEntry_facts (x : Entry) (n : Int) (h0 : -1 ≤ n) (h1 : n ≤ 1048576) (hx : bwEntry x) : -1 ≤ laws_szEntry x n ∧ laws_szEntry x n ≤ n ∧ (¬ laws_szEntry x n < 0 → bdEntry x) :=
  ⟨(laws_szEntry_le x n h0 h1 hx).1, (laws_szEntry_le x n h0 h1 hx).2, laws_szEntry_bd x n h0 h1 hx⟩
end Go.Ab

namespace Go.Ab
open Go Go.Proofs
theorem laws_szEntryS_DD : DOk Try.prog (DD [(53, dP D_laws_szEntry)]) := DD_cons D_laws_szEntry_ok.e <| DD_nil _
def laws_szEntryS_b1 (a0 : (List Entry)) (a1 : Int) (i1 : Nat) (s1 : Int) : Except (Int) (Int) :=
  (bif decide ((laws_szEntry (a0.getD i1 default) s1) < 0) then .error (-1) else .ok (laws_szEntry (a0.getD i1 default) s1))
def laws_szEntryS (a0 : (List Entry)) (a1 : Int) : Int :=
  (bif decide ((IntKind.wrap .i64 (a1 - (a0.length : Int))) < 0) then (-1) else (match loopR (laws_szEntryS_b1 a0 a1) (a0.length - 0) 0 (IntKind.wrap .i64 (a1 - (a0.length : Int))) with | .error e => e | .ok s1 => s1))
theorem laws_szEntryS_den (a0 : (List Entry)) (a1 : Int) (hp0 : -1 ≤ a1) (hp1 : a1 ≤ 1048576) : Den Try.prog 56 [encL 3 eEntry a0, .int .i64 a1] (.int .i64 (laws_szEntryS a0 a1)) := by
  generalize hR : laws_szEntryS a0 a1 = r
  unfold laws_szEntryS at hR
  refine den_intro G_ok Try.func56 (by kernel_rfl) rfl Try.ntmps56 (by rw [Try.results56]) (by simp) rfl ?_
  intro c hL hc hk
  obtain ⟨hL0, hL1, _⟩ := hL
  have hw0 : a0.length < 9223372036854775808 := Nat.lt_succ_of_le (lens_encL hL0).1
  have hw1 : ∀ v ∈ a0, bwEntry v := fun v hv => Entry_lens v ((lens_encL hL0).2 v hv)
  clear hL0 hL1
  simp only [pars, Nat.zero_add]
  refine AWP.seq ?_
  refine AWP.regS G_ok laws_szEntryS_DD hc (by kernel_rfl) (fun K hK => ?_); simp only [ea, gv, sv, D_laws_szEntry, reduceCtorEq, reduceIte, Nat.reduceBEq, Nat.reduceAdd, Nat.reduceEqDiff, Nat.reduceLT, Nat.reduceLeDiff, Nat.reduceMul, Nat.reduceSub, BEq.rfl, beq_self_eq_true, Int.reduceToNat]
  (refine hK _ ?_)
  clear hK K
  refine AWP.seq ?_
  refine AWP.regS G_ok laws_szEntryS_DD hc (by kernel_rfl) (fun K hK => ?_); simp only [ea, gv, sv, D_laws_szEntry, reduceCtorEq, reduceIte, Nat.reduceBEq, Nat.reduceAdd, Nat.reduceEqDiff, Nat.reduceLT, Nat.reduceLeDiff, Nat.reduceMul, Nat.reduceSub, BEq.rfl, beq_self_eq_true, Int.reduceToNat]
  (refine hK _ ?_)
  clear hK K
  refine AWP.seq ?_
  refine AWP.seq ?_
  refine AWP.regS G_ok laws_szEntryS_DD hc (by kernel_rfl) (fun K hK => ?_); simp only [ea, gv, sv, D_laws_szEntry, reduceCtorEq, reduceIte, Nat.reduceBEq, Nat.reduceAdd, Nat.reduceEqDiff, Nat.reduceLT, Nat.reduceLeDiff, Nat.reduceMul, Nat.reduceSub, BEq.rfl, beq_self_eq_true, Int.reduceToNat]
  (refine hK _ ?_)
  clear hK K
  refine AWP.cond rfl (fun hb => ?_) (fun hb => ?_)
  · (simp only [hb, cond_true] at hR)
    refine AWP.seq ?_
    refine AWP.regS G_ok laws_szEntryS_DD hc (by kernel_rfl) (fun K hK => ?_); simp only [ea, gv, sv, D_laws_szEntry, reduceCtorEq, reduceIte, Nat.reduceBEq, Nat.reduceAdd, Nat.reduceEqDiff, Nat.reduceLT, Nat.reduceLeDiff, Nat.reduceMul, Nat.reduceSub, BEq.rfl, beq_self_eq_true, Int.reduceToNat]
    (refine hK _ ?_)
    clear hK K
    refine AWP.ret ?_
    subst hR
    (simp only [en, si, ea, gv, sv, hk, reduceCtorEq, reduceIte, Nat.reduceBEq, Nat.reduceAdd, Nat.reduceEqDiff, Nat.reduceLT, Nat.reduceLeDiff, Nat.reduceMul, Nat.reduceSub, BEq.rfl, beq_self_eq_true, Int.reduceToNat]; done)
  · (simp only [hb, cond_false] at hR)
    refine AWP.skip ?_
    refine AWP.seq ?_
    refine AWP.seq ?_
    refine AWP.regS G_ok laws_szEntryS_DD hc (by kernel_rfl) (fun K hK => ?_); simp only [ea, gv, sv, D_laws_szEntry, reduceCtorEq, reduceIte, Nat.reduceBEq, Nat.reduceAdd, Nat.reduceEqDiff, Nat.reduceLT, Nat.reduceLeDiff, Nat.reduceMul, Nat.reduceSub, BEq.rfl, beq_self_eq_true, Int.reduceToNat]
    (refine hK _ ?_)
    clear hK K
    refine AWP.block ?_
    generalize hz1 : loopR (laws_szEntryS_b1 a0 a1) (a0.length - 0) 0 (IntKind.wrap .i64 (a1 - (a0.length : Int))) = z1 at hR
    refine AWP.range (laws_szEntryS_b1 a0 a1) (fun i1 s1 => ⟨[(0, encL 3 eEntry a0), (1, .int .i64 s1), (5, .int .i64 (i1 : Int))], []⟩) (fun i1 s1 => -1 ≤ s1 ∧ s1 ≤ 1048576) (a0.length) 0 (IntKind.wrap .i64 (a1 - (a0.length : Int))) [] hz1 (by (omega)) (by ((and_intros <;> simp only [ob, ln] at * <;> omega))) (by (simp only [si, ea, gv, sv, hk, reduceCtorEq, reduceIte, Nat.reduceBEq, Nat.reduceAdd, Nat.reduceEqDiff, Nat.reduceLT, Nat.reduceLeDiff, Nat.reduceMul, Nat.reduceSub, BEq.rfl, beq_self_eq_true, Int.reduceToNat]; trivial)) ?_
    clear hz1
    intro i1 s1 hi1 hW1 hz1
    refine AWP.seq ?_
    refine AWP.seq ?_
    refine AWP.regS G_ok laws_szEntryS_DD hc (by kernel_rfl) (fun K hK => ?_); simp only [ea, gv, sv, D_laws_szEntry, reduceCtorEq, reduceIte, Nat.reduceBEq, Nat.reduceAdd, Nat.reduceEqDiff, Nat.reduceLT, Nat.reduceLeDiff, Nat.reduceMul, Nat.reduceSub, BEq.rfl, beq_self_eq_true, Int.reduceToNat]
    (refine hK _ ?_)
    clear hK K
    refine AWP.cond rfl (fun hb => ?_) (fun hb => ?_)
    · have hlt1 : i1 < a0.length := by ((simp only [ob, ln, bdv, sv] at *; omega))
      rw [loopR_lt hlt1] at hz1; simp only [laws_szEntryS_b1] at hz1
      refine AWP.skip ?_
      refine AWP.seq ?_
      refine AWP.block ?_
      refine AWP.seq ?_
      refine AWP.regS G_ok laws_szEntryS_DD hc (by kernel_rfl) (fun K hK => ?_); simp only [ea, gv, sv, D_laws_szEntry, reduceCtorEq, reduceIte, Nat.reduceBEq, Nat.reduceAdd, Nat.reduceEqDiff, Nat.reduceLT, Nat.reduceLeDiff, Nat.reduceMul, Nat.reduceSub, BEq.rfl, beq_self_eq_true, Int.reduceToNat]
      (refine ⟨by (omega), hK _ ?_⟩)
      clear hK K
      refine AWP.seq ?_
      refine AWP.regS G_ok laws_szEntryS_DD hc (by kernel_rfl) (fun K hK => ?_); simp only [ea, gv, sv, D_laws_szEntry, reduceCtorEq, reduceIte, Nat.reduceBEq, Nat.reduceAdd, Nat.reduceEqDiff, Nat.reduceLT, Nat.reduceLeDiff, Nat.reduceMul, Nat.reduceSub, BEq.rfl, beq_self_eq_true, Int.reduceToNat]
      (refine hK _ ?_)
      clear hK K
      refine AWP.cond rfl (fun hb => ?_) (fun hb => ?_)
      · (simp only [hb, cond_true] at hz1)
        refine AWP.seq ?_
        refine AWP.regS G_ok laws_szEntryS_DD hc (by kernel_rfl) (fun K hK => ?_); simp only [ea, gv, sv, D_laws_szEntry, reduceCtorEq, reduceIte, Nat.reduceBEq, Nat.reduceAdd, Nat.reduceEqDiff, Nat.reduceLT, Nat.reduceLeDiff, Nat.reduceMul, Nat.reduceSub, BEq.rfl, beq_self_eq_true, Int.reduceToNat]
        (refine hK _ ?_)
        clear hK K
        refine AWP.ret ?_
        subst hz1
        dsimp only at hR
        subst hR
        (simp only [en, si, ea, gv, sv, hk, reduceCtorEq, reduceIte, Nat.reduceBEq, Nat.reduceAdd, Nat.reduceEqDiff, Nat.reduceLT, Nat.reduceLeDiff, Nat.reduceMul, Nat.reduceSub, BEq.rfl, beq_self_eq_true, Int.reduceToNat]; done)
      · (simp only [hb, cond_false] at hz1)
        refine AWP.skip ?_
        refine AWP.regS G_ok laws_szEntryS_DD hc (by kernel_rfl) (fun K hK => ?_); simp only [ea, gv, sv, D_laws_szEntry, reduceCtorEq, reduceIte, Nat.reduceBEq, Nat.reduceAdd, Nat.reduceEqDiff, Nat.reduceLT, Nat.reduceLeDiff, Nat.reduceMul, Nat.reduceSub, BEq.rfl, beq_self_eq_true, Int.reduceToNat]
        (refine hK _ ?_)
        clear hK K
        exact ⟨_, [], hlt1, by (have h9 := laws_szEntry_le (a0.getD i1 default) s1 (by omega) (by omega) (bd_getD (by assumption) (by decide) _); simp only [ob] at hb; omega), hz1, by (simp only [si, ea, gv, sv, hk, reduceCtorEq, reduceIte, Nat.reduceBEq, Nat.reduceAdd, Nat.reduceEqDiff, Nat.reduceLT, Nat.reduceLeDiff, Nat.reduceMul, Nat.reduceSub, BEq.rfl, beq_self_eq_true, Int.reduceToNat]; (and_intros <;> first | trivial | (rw [IntKind.wrap_i64]; omega)))⟩
    · obtain rfl : i1 = a0.length := by ((simp only [ob, ln, bdv, sv] at *; omega))
      rw [loopR_ge (Nat.le_refl _)] at hz1; subst hz1; dsimp only at hR
      refine AWP.exit ?_; refine exitTo_here ?_
      refine AWP.seq ?_
      refine AWP.regS G_ok laws_szEntryS_DD hc (by kernel_rfl) (fun K hK => ?_); simp only [ea, gv, sv, D_laws_szEntry, reduceCtorEq, reduceIte, Nat.reduceBEq, Nat.reduceAdd, Nat.reduceEqDiff, Nat.reduceLT, Nat.reduceLeDiff, Nat.reduceMul, Nat.reduceSub, BEq.rfl, beq_self_eq_true, Int.reduceToNat]
      (refine hK _ ?_)
      clear hK K
      refine AWP.ret ?_
      subst hR
      (simp only [en, si, ea, gv, sv, hk, reduceCtorEq, reduceIte, Nat.reduceBEq, Nat.reduceAdd, Nat.reduceEqDiff, Nat.reduceLT, Nat.reduceLeDiff, Nat.reduceMul, Nat.reduceSub, BEq.rfl, beq_self_eq_true, Int.reduceToNat]; done)
def D_laws_szEntryS : DF
  | [x0, x1] => some (.int .i64 (laws_szEntryS (rdL dEntry x0) (rdI x1)), false, [wL 3 eEntry dEntry x0, wI .i64 x1, -1 ≤ (rdI x1), (rdI x1) ≤ 1048576])
  | _ => none
theorem D_laws_szEntryS_ok : OkD Try.prog 56 D_laws_szEntryS := by
  intro xs r z ob h ho
  unfold D_laws_szEntryS at h
  split at h
  · simp only [Option.some.injEq, Prod.mk.injEq] at h
    obtain ⟨rfl, rfl, rfl⟩ := h
    obtain ⟨h0, h1, hp0, hp1, _⟩ := ho
    exact Den.sim (laws_szEntryS_den _ _ hp0 hp1) (simOL_cons (wL_sim h0).1 <| simOL_cons (wI_sim h1).1 <| trivial) (noIdL_cons (wL_sim h0).2 <| noIdL_cons (wI_sim h1).2 <| rfl) rfl
  · cases h
end Go.Ab

namespace Go.Ab
open Go Go.Proofs
theorem laws_szSpare_DD : DOk Try.prog (DD []) := DD_nil _
def laws_szSpare (a0 : Spare) (a1 : Int) : Int :=
  (bif decide ((IntKind.wrap .i64 (a1 - (a0.Name.length : Int))) < 0) then (-1) else IntKind.wrap .i64 (a1 - (a0.Name.length : Int)))
theorem laws_szSpare_den (a0 : Spare) (a1 : Int) (hp0 : -1 ≤ a1) (hp1 : a1 ≤ 1048576) : Den Try.prog 49 [.agg (eSpare a0), .int .i64 a1] (.int .i64 (laws_szSpare a0 a1)) := by
  generalize hR : laws_szSpare a0 a1 = r
  unfold laws_szSpare at hR
  refine den_intro G_ok Try.func49 (by kernel_rfl) rfl Try.ntmps49 (by rw [Try.results49]) (by simp) rfl ?_
  intro c hL hc hk
  obtain ⟨hL0, hL1, _⟩ := hL
  have hw0 : bwSpare a0 := Spare_lens a0 hL0
  clear hL0 hL1
  simp only [pars, Nat.zero_add]
  refine AWP.seq ?_
  refine AWP.regS G_ok laws_szSpare_DD hc (by kernel_rfl) (fun K hK => ?_); simp only [ea, gv, sv, reduceCtorEq, reduceIte, Nat.reduceBEq, Nat.reduceAdd, Nat.reduceEqDiff, Nat.reduceLT, Nat.reduceLeDiff, Nat.reduceMul, Nat.reduceSub, BEq.rfl, beq_self_eq_true, Int.reduceToNat]
  (refine hK _ ?_)
  clear hK K
  refine AWP.seq ?_
  refine AWP.regS G_ok laws_szSpare_DD hc (by kernel_rfl) (fun K hK => ?_); simp only [ea, gv, sv, reduceCtorEq, reduceIte, Nat.reduceBEq, Nat.reduceAdd, Nat.reduceEqDiff, Nat.reduceLT, Nat.reduceLeDiff, Nat.reduceMul, Nat.reduceSub, BEq.rfl, beq_self_eq_true, Int.reduceToNat]
  (refine hK _ ?_)
  clear hK K
  refine AWP.seq ?_
  refine AWP.seq ?_
  refine AWP.regS G_ok laws_szSpare_DD hc (by kernel_rfl) (fun K hK => ?_); simp only [ea, gv, sv, reduceCtorEq, reduceIte, Nat.reduceBEq, Nat.reduceAdd, Nat.reduceEqDiff, Nat.reduceLT, Nat.reduceLeDiff, Nat.reduceMul, Nat.reduceSub, BEq.rfl, beq_self_eq_true, Int.reduceToNat]
  (refine hK _ ?_)
  clear hK K
  refine AWP.cond rfl (fun hb => ?_) (fun hb => ?_)
  · (simp only [hb, cond_true] at hR)
    refine AWP.seq ?_
    refine AWP.regS G_ok laws_szSpare_DD hc (by kernel_rfl) (fun K hK => ?_); simp only [ea, gv, sv, reduceCtorEq, reduceIte, Nat.reduceBEq, Nat.reduceAdd, Nat.reduceEqDiff, Nat.reduceLT, Nat.reduceLeDiff, Nat.reduceMul, Nat.reduceSub, BEq.rfl, beq_self_eq_true, Int.reduceToNat]
    (refine hK _ ?_)
    clear hK K
    refine AWP.ret ?_
    subst hR
    (simp only [en, si, ea, gv, sv, hk, reduceCtorEq, reduceIte, Nat.reduceBEq, Nat.reduceAdd, Nat.reduceEqDiff, Nat.reduceLT, Nat.reduceLeDiff, Nat.reduceMul, Nat.reduceSub, BEq.rfl, beq_self_eq_true, Int.reduceToNat]; done)
  · (simp only [hb, cond_false] at hR)
    refine AWP.skip ?_
    refine AWP.seq ?_
    refine AWP.regS G_ok laws_szSpare_DD hc (by kernel_rfl) (fun K hK => ?_); simp only [ea, gv, sv, reduceCtorEq, reduceIte, Nat.reduceBEq, Nat.reduceAdd, Nat.reduceEqDiff, Nat.reduceLT, Nat.reduceLeDiff, Nat.reduceMul, Nat.reduceSub, BEq.rfl, beq_self_eq_true, Int.reduceToNat]
    (refine hK _ ?_)
    clear hK K
    refine AWP.ret ?_
    subst hR
    (simp only [en, si, ea, gv, sv, hk, reduceCtorEq, reduceIte, Nat.reduceBEq, Nat.reduceAdd, Nat.reduceEqDiff, Nat.reduceLT, Nat.reduceLeDiff, Nat.reduceMul, Nat.reduceSub, BEq.rfl, beq_self_eq_true, Int.reduceToNat]; done)
def D_laws_szSpare : DF
  | [x0, x1] => some (.int .i64 (laws_szSpare (rdG dSpare x0) (rdI x1)), false, [wG eSpare dSpare x0, wI .i64 x1, -1 ≤ (rdI x1), (rdI x1) ≤ 1048576])
  | _ => none
theorem D_laws_szSpare_ok : OkD Try.prog 49 D_laws_szSpare := by
  intro xs r z ob h ho
  unfold D_laws_szSpare at h
  split at h
  · simp only [Option.some.injEq, Prod.mk.injEq] at h
    obtain ⟨rfl, rfl, rfl⟩ := h
    obtain ⟨h0, h1, hp0, hp1, _⟩ := ho
    exact Den.sim (laws_szSpare_den _ _ hp0 hp1) (simOL_cons (wG_sim h0).1 <| simOL_cons (wI_sim h1).1 <| trivial) (noIdL_cons (wG_sim h0).2 <| noIdL_cons (wI_sim h1).2 <| rfl) rfl
  · cases h
end Go.Ab

namespace Go.Ab
open Go Go.Proofs
theorem laws_szSpare_le (x : Spare) (n : Int) (h0 : -1 ≤ n) (h1 : n ≤ 1048576) (hx : bwSpare x) : -1 ≤ laws_szSpare x n ∧ laws_szSpare x n ≤ n := by
  have hx2 : x.Name.length < 9223372036854775808 := hx
  unfold laws_szSpare
  rw [IntKind.wrap_i64]
  cases hd : decide ((n - (x.Name.length : Int) + 9223372036854775808) % 18446744073709551616 - 9223372036854775808 < 0) with
  | true => simp; omega
  | false =>
    simp only [cond_false]
    have := of_decide_eq_false hd
    omega
theorem laws_szSpare_bd (x : Spare) (n : Int) (h0 : -1 ≤ n) (h1 : n ≤ 1048576) (hx : bwSpare x) (h : ¬ laws_szSpare x n < 0) : bdSpare x := by
  have hx2 : x.Name.length < 9223372036854775808 := hx
  unfold laws_szSpare at h
  rw [IntKind.wrap_i64] at h
  cases hd : decide ((n - (x.Name.length : Int) + 9223372036854775808) % 18446744073709551616 - 9223372036854775808 < 0) with
  | true => rw [hd] at h; simp at h
  | false =>
    have := of_decide_eq_false hd
    show x.Name.length < 1099511627776
    omega
theorem laws_szSpare_facts (x : Spare) (n : Int) (h0 : -1 ≤ n) (h1 : n ≤ 1048576) (hx : bwSpare x) : -1 ≤ laws_szSpare x n ∧ laws_szSpare x n ≤ n ∧ (¬ laws_szSpare x n < 0 → bdSpare x) :=
  ⟨(laws_szSpare_le x n h0 h1 hx).1, (laws_szSpare_le x n h0 h1 hx).2, laws_szSpare_bd x n h0 h1 hx⟩
end Go.Ab

namespace Go.Ab
open Go Go.Proofs
theorem laws_szSpareS_DD : DOk Try.prog (DD [(49, dP D_laws_szSpare)]) := DD_cons D_laws_szSpare_ok.e <| DD_nil _
def laws_szSpareS_b1 (a0 : (List Spare)) (a1 : Int) (i1 : Nat) (s1 : Int) : Except (Int) (Int) :=
  (bif decide ((laws_szSpare (a0.getD i1 default) s1) < 0) then .error (-1) else .ok (laws_szSpare (a0.getD i1 default) s1))
def laws_szSpareS (a0 : (List Spare)) (a1 : Int) : Int :=
  (bif decide ((IntKind.wrap .i64 (a1 - (a0.length : Int))) < 0) then (-1) else (match loopR (laws_szSpareS_b1 a0 a1) (a0.length - 0) 0 (IntKind.wrap .i64 (a1 - (a0.length : Int))) with | .error e => e | .ok s1 => s1))
theorem laws_szSpareS_den (a0 : (List Spare)) (a1 : Int) (hp0 : -1 ≤ a1) (hp1 : a1 ≤ 1048576) : Den Try.prog 62 [encL 3 eSpare a0, .int .i64 a1] (.int .i64 (laws_szSpareS a0 a1)) := by
  generalize hR : laws_szSpareS a0 a1 = r
  unfold laws_szSpareS at hR
  refine den_intro G_ok Try.func62 (by kernel_rfl) rfl Try.ntmps62 (by rw [Try.results62]) (by simp) rfl ?_
  intro c hL hc hk
  obtain ⟨hL0, hL1, _⟩ := hL
  have hw0 : a0.length < 9223372036854775808 := Nat.lt_succ_of_le (lens_encL hL0).1
  have hw1 : ∀ v ∈ a0, bwSpare v := fun v hv => Spare_lens v ((lens_encL hL0).2 v hv)
  clear hL0 hL1
  simp only [pars, Nat.zero_add]
  refine AWP.seq ?_
  refine AWP.regS G_ok laws_szSpareS_DD hc (by kernel_rfl) (fun K hK => ?_); simp only [ea, gv, sv, D_laws_szSpare, reduceCtorEq, reduceIte, Nat.reduceBEq, Nat.reduceAdd, Nat.reduceEqDiff, Nat.reduceLT, Nat.reduceLeDiff, Nat.reduceMul, Nat.reduceSub, BEq.rfl, beq_self_eq_true, Int.reduceToNat]
  (refine hK _ ?_)
  clear hK K
  refine AWP.seq ?_
  refine AWP.regS G_ok laws_szSpareS_DD hc (by kernel_rfl) (fun K hK => ?_); simp only [ea, gv, sv, D_laws_szSpare, reduceCtorEq, reduceIte, Nat.reduceBEq, Nat.reduceAdd, Nat.reduceEqDiff, Nat.reduceLT, Nat.reduceLeDiff, Nat.reduceMul, Nat.reduceSub, BEq.rfl, beq_self_eq_true, Int.reduceToNat]
  (refine hK _ ?_)
  clear hK K
  refine AWP.seq ?_
  refine AWP.seq ?_
  refine AWP.regS G_ok laws_szSpareS_DD hc (by kernel_rfl) (fun K hK => ?_); simp only [ea, gv, sv, D_laws_szSpare, reduceCtorEq, reduceIte, Nat.reduceBEq, Nat.reduceAdd, Nat.reduceEqDiff, Nat.reduceLT, Nat.reduceLeDiff, Nat.reduceMul, Nat.reduceSub, BEq.rfl, beq_self_eq_true, Int.reduceToNat]
  (refine hK _ ?_)
  clear hK K
  refine AWP.cond rfl (fun hb => ?_) (fun hb => ?_)
  · (simp only [hb, cond_true] at hR)
    refine AWP.seq ?_
    refine AWP.regS G_ok laws_szSpareS_DD hc (by kernel_rfl) (fun K hK => ?_); simp only [ea, gv, sv, D_laws_szSpare, reduceCtorEq, reduceIte, Nat.reduceBEq, Nat.reduceAdd, Nat.reduceEqDiff, Nat.reduceLT, Nat.reduceLeDiff, Nat.reduceMul, Nat.reduceSub, BEq.rfl, beq_self_eq_true, Int.reduceToNat]
    (refine hK _ ?_)
    clear hK K
    refine AWP.ret ?_
    subst hR
    (simp only [en, si, ea, gv, sv, hk, reduceCtorEq, reduceIte, Nat.reduceBEq, Nat.reduceAdd, Nat.reduceEqDiff, Nat.reduceLT, Nat.reduceLeDiff, Nat.reduceMul, Nat.reduceSub, BEq.rfl, beq_self_eq_true, Int.reduceToNat]; done)
  · (simp only [hb, cond_false] at hR)
    refine AWP.skip ?_
    refine AWP.seq ?_
    refine AWP.seq ?_
    refine AWP.regS G_ok laws_szSpareS_DD hc (by kernel_rfl) (fun K hK => ?_); simp only [ea, gv, sv, D_laws_szSpare, reduceCtorEq, reduceIte, Nat.reduceBEq, Nat.reduceAdd, Nat.reduceEqDiff, Nat.reduceLT, Nat.reduceLeDiff, Nat.reduceMul, Nat.reduceSub, BEq.rfl, beq_self_eq_true, Int.reduceToNat]
    (refine hK _ ?_)
    clear hK K
    refine AWP.block ?_
    generalize hz1 : loopR (laws_szSpareS_b1 a0 a1) (a0.length - 0) 0 (IntKind.wrap .i64 (a1 - (a0.length : Int))) = z1 at hR
    refine AWP.range (laws_szSpareS_b1 a0 a1) (fun i1 s1 => ⟨[(0, encL 3 eSpare a0), (1, .int .i64 s1), (5, .int .i64 (i1 : Int))], []⟩) (fun i1 s1 => -1 ≤ s1 ∧ s1 ≤ 1048576) (a0.length) 0 (IntKind.wrap .i64 (a1 - (a0.length : Int))) [] hz1 (by (omega)) (by ((and_intros <;> simp only [ob, ln] at * <;> omega))) (by (simp only [si, ea, gv, sv, hk, reduceCtorEq, reduceIte, Nat.reduceBEq, Nat.reduceAdd, Nat.reduceEqDiff, Nat.reduceLT, Nat.reduceLeDiff, Nat.reduceMul, Nat.reduceSub, BEq.rfl, beq_self_eq_true, Int.reduceToNat]; trivial)) ?_
    clear hz1
    intro i1 s1 hi1 hW1 hz1
    refine AWP.seq ?_
    refine AWP.seq ?_
    refine AWP.regS G_ok laws_szSpareS_DD hc (by kernel_rfl) (fun K hK => ?_); simp only [ea, gv, sv, D_laws_szSpare, reduceCtorEq, reduceIte, Nat.reduceBEq, Nat.reduceAdd, Nat.reduceEqDiff, Nat.reduceLT, Nat.reduceLeDiff, Nat.reduceMul, Nat.reduceSub, BEq.rfl, beq_self_eq_true, Int.reduceToNat]
    (refine hK _ ?_)
    clear hK K
    refine AWP.cond rfl (fun hb => ?_) (fun hb => ?_)
    · have hlt1 : i1 < a0.length := by ((simp only [ob, ln, bdv, sv] at *; omega))
      rw [loopR_lt hlt1] at hz1; simp only [laws_szSpareS_b1] at hz1
      refine AWP.skip ?_
      refine AWP.seq ?_
      refine AWP.block ?_
      refine AWP.seq ?_
      refine AWP.regS G_ok laws_szSpareS_DD hc (by kernel_rfl) (fun K hK => ?_); simp only [ea, gv, sv, D_laws_szSpare, reduceCtorEq, reduceIte, Nat.reduceBEq, Nat.reduceAdd, Nat.reduceEqDiff, Nat.reduceLT, Nat.reduceLeDiff, Nat.reduceMul, Nat.reduceSub, BEq.rfl, beq_self_eq_true, Int.reduceToNat]
      (refine ⟨by (omega), hK _ ?_⟩)
      clear hK K
      refine AWP.seq ?_
      refine AWP.regS G_ok laws_szSpareS_DD hc (by kernel_rfl) (fun K hK => ?_); simp only [ea, gv, sv, D_laws_szSpare, reduceCtorEq, reduceIte, Nat.reduceBEq, Nat.reduceAdd, Nat.reduceEqDiff, Nat.reduceLT, Nat.reduceLeDiff, Nat.reduceMul, Nat.reduceSub, BEq.rfl, beq_self_eq_true, Int.reduceToNat]
      (refine hK _ ?_)
      clear hK K
      refine AWP.cond rfl (fun hb => ?_) (fun hb => ?_)
      · (simp only [hb, cond_true] at hz1)
        refine AWP.seq ?_
        refine AWP.regS G_ok laws_szSpareS_DD hc (by kernel_rfl) (fun K hK => ?_); simp only [ea, gv, sv, D_laws_szSpare, reduceCtorEq, reduceIte, Nat.reduceBEq, Nat.reduceAdd, Nat.reduceEqDiff, Nat.reduceLT, Nat.reduceLeDiff, Nat.reduceMul, Nat.reduceSub, BEq.rfl, beq_self_eq_true, Int.reduceToNat]
        (refine hK _ ?_)
        clear hK K
        refine AWP.ret ?_
        subst hz1
        dsimp only at hR
        subst hR
        (simp only [en, si, ea, gv, sv, hk, reduceCtorEq, reduceIte, Nat.reduceBEq, Nat.reduceAdd, Nat.reduceEqDiff, Nat.reduceLT, Nat.reduceLeDiff, Nat.reduceMul, Nat.reduceSub, BEq.rfl, beq_self_eq_true, Int.reduceToNat]; done)
      · (simp only [hb, cond_false] at hz1)
        refine AWP.skip ?_
        refine AWP.regS G_ok laws_szSpareS_DD hc (by kernel_rfl) (fun K hK => ?_); simp only [ea, gv, sv, D_laws_szSpare, reduceCtorEq, reduceIte, Nat.reduceBEq, Nat.reduceAdd, Nat.reduceEqDiff, Nat.reduceLT, Nat.reduceLeDiff, Nat.reduceMul, Nat.reduceSub, BEq.rfl, beq_self_eq_true, Int.reduceToNat]
        (refine hK _ ?_)
        clear hK K
        exact ⟨_, [], hlt1, by (have h9 := laws_szSpare_le (a0.getD i1 default) s1 (by omega) (by omega) (bd_getD (by assumption) (by decide) _); simp only [ob] at hb; omega), hz1, by (simp only [si, ea, gv, sv, hk, reduceCtorEq, reduceIte, Nat.reduceBEq, Nat.reduceAdd, Nat.reduceEqDiff, Nat.reduceLT, Nat.reduceLeDiff, Nat.reduceMul, Nat.reduceSub, BEq.rfl, beq_self_eq_true, Int.reduceToNat]; (and_intros <;> first | trivial | (rw [IntKind.wrap_i64]; omega)))⟩
    · obtain rfl : i1 = a0.length := by ((simp only [ob, ln, bdv, sv] at *; omega))
      rw [loopR_ge (Nat.le_refl _)] at hz1; subst hz1; dsimp only at hR
      refine AWP.exit ?_; refine exitTo_here ?_
      refine AWP.seq ?_
      refine AWP.regS G_ok laws_szSpareS_DD hc (by kernel_rfl) (fun K hK => ?_); simp only [ea, gv, sv, D_laws_szSpare, reduceCtorEq, reduceIte, Nat.reduceBEq, Nat.reduceAdd, Nat.reduceEqDiff, Nat.reduceLT, Nat.reduceLeDiff, Nat.reduceMul, Nat.reduceSub, BEq.rfl, beq_self_eq_true, Int.reduceToNat]
      (refine hK _ ?_)
      clear hK K
      refine AWP.ret ?_
      subst hR
      (simp only [en, si, ea, gv, sv, hk, reduceCtorEq, reduceIte, Nat.reduceBEq, Nat.reduceAdd, Nat.reduceEqDiff, Nat.reduceLT, Nat.reduceLeDiff, Nat.reduceMul, Nat.reduceSub, BEq.rfl, beq_self_eq_true, Int.reduceToNat]; done)
def D_laws_szSpareS : DF
  | [x0, x1] => some (.int .i64 (laws_szSpareS (rdL dSpare x0) (rdI x1)), false, [wL 3 eSpare dSpare x0, wI .i64 x1, -1 ≤ (rdI x1), (rdI x1) ≤ 1048576])
  | _ => none
theorem D_laws_szSpareS_ok : OkD Try.prog 62 D_laws_szSpareS := by
  intro xs r z ob h ho
  unfold D_laws_szSpareS at h
  split at h
  · simp only [Option.some.injEq, Prod.mk.injEq] at h
    obtain ⟨rfl, rfl, rfl⟩ := h
    obtain ⟨h0, h1, hp0, hp1, _⟩ := ho
    exact Den.sim (laws_szSpareS_den _ _ hp0 hp1) (simOL_cons (wL_sim h0).1 <| simOL_cons (wI_sim h1).1 <| trivial) (noIdL_cons (wL_sim h0).2 <| noIdL_cons (wI_sim h1).2 <| rfl) rfl
  · cases h
end Go.Ab

namespace Go.Ab
open Go Go.Proofs
theorem laws_szEntryS_facts (a : List Entry) (n : Int) (h0 : -1 ≤ n) (h1 : n ≤ 1048576) (hl : a.length < 9223372036854775808) (hx : ∀ v ∈ a, bwEntry v) :
    -1 ≤ laws_szEntryS a n ∧ laws_szEntryS a n ≤ n ∧ (¬ laws_szEntryS a n < 0 → a.length ≤ 1048576 ∧ ∀ v ∈ a, bdEntry v) := by
  unfold laws_szEntryS
  rw [IntKind.wrap_i64]
  cases hd : decide ((n - (a.length : Int) + 9223372036854775808) % 18446744073709551616 - 9223372036854775808 < 0) with
  | true => simp; omega
  | false =>
    simp only [cond_false]
    have hd2 := of_decide_eq_false hd
    split
    · rename_i e h
      obtain ⟨j, t, _, _, h3⟩ := loopR_error h
      simp only [laws_szEntryS_b1] at h3
      have : e = -1 := by
        cases hq : decide (laws_szEntry (a.getD j default) t < 0) with
        | true => rw [hq] at h3; simpa using h3.symm
        | false => rw [hq] at h3; simp at h3
      omega
    · rename_i s h
      have := loopR_inv (b := laws_szEntryS_b1 a n) (fun i s => -1 ≤ s ∧ s ≤ n - a.length ∧ ∀ j, j < i → bdEntry (a.getD j default)) ⟨by omega, by omega, by intro j hj; omega⟩ (by
        intro j u v h1 h2 ⟨h3, h4, h5⟩ h6
        simp only [laws_szEntryS_b1] at h6
        have hb : bwEntry (a.getD j default) := bd_getD hx (by decide) j
        have hle := laws_szEntry_le (a.getD j default) u h3 (by omega) hb
        cases hq : decide (laws_szEntry (a.getD j default) u < 0) with
        | true => rw [hq] at h6; simp at h6
        | false =>
          rw [hq] at h6
          simp only [cond_false, Except.ok.injEq] at h6
          subst h6
          refine ⟨by omega, by omega, fun q hq2 => ?_⟩
          by_cases hqj : q = j
          · subst hqj; exact laws_szEntry_bd _ u h3 (by omega) hb (of_decide_eq_false hq)
          · exact h5 q (by omega)) h
      refine ⟨by omega, by omega, fun _ => ⟨by omega, fun v hv => ?_⟩⟩
      obtain ⟨i, hi, rfl⟩ := List.getElem_of_mem hv
      have := this.2.2 i (by omega)
      simpa [List.getD_eq_getElem?_getD, hi] using this
end Go.Ab

namespace Go.Ab
open Go Go.Proofs
theorem laws_szSpareS_facts (a : List Spare) (n : Int) (h0 : -1 ≤ n) (h1 : n ≤ 1048576) (hl : a.length < 9223372036854775808) (hx : ∀ v ∈ a, bwSpare v) :
    -1 ≤ laws_szSpareS a n ∧ laws_szSpareS a n ≤ n ∧ (¬ laws_szSpareS a n < 0 → a.length ≤ 1048576 ∧ ∀ v ∈ a, bdSpare v) := by
  unfold laws_szSpareS
  rw [IntKind.wrap_i64]
  cases hd : decide ((n - (a.length : Int) + 9223372036854775808) % 18446744073709551616 - 9223372036854775808 < 0) with
  | true => simp; omega
  | false =>
    simp only [cond_false]
    have hd2 := of_decide_eq_false hd
    split
    · rename_i e h
      obtain ⟨j, t, _, _, h3⟩ := loopR_error h
      simp only [laws_szSpareS_b1] at h3
      have : e = -1 := by
        cases hq : decide (laws_szSpare (a.getD j default) t < 0) with
        | true => rw [hq] at h3; simpa using h3.symm
        | false => rw [hq] at h3; simp at h3
      omega
    · rename_i s h
      have := loopR_inv (b := laws_szSpareS_b1 a n) (fun i s => -1 ≤ s ∧ s ≤ n - a.length ∧ ∀ j, j < i → bdSpare (a.getD j default)) ⟨by omega, by omega, by intro j hj; omega⟩ (by
        intro j u v h1 h2 ⟨h3, h4, h5⟩ h6
        simp only [laws_szSpareS_b1] at h6
        have hb : bwSpare (a.getD j default) := bd_getD hx (by decide) j
        have hle := laws_szSpare_le (a.getD j default) u h3 (by omega) hb
        cases hq : decide (laws_szSpare (a.getD j default) u < 0) with
        | true => rw [hq] at h6; simp at h6
        | false =>
          rw [hq] at h6
          simp only [cond_false, Except.ok.injEq] at h6
          subst h6
          refine ⟨by omega, by omega, fun q hq2 => ?_⟩
          by_cases hqj : q = j
          · subst hqj; exact laws_szSpare_bd _ u h3 (by omega) hb (of_decide_eq_false hq)
          · exact h5 q (by omega)) h
      refine ⟨by omega, by omega, fun _ => ⟨by omega, fun v hv => ?_⟩⟩
      obtain ⟨i, hi, rfl⟩ := List.getElem_of_mem hv
      have := this.2.2 i (by omega)
      simpa [List.getD_eq_getElem?_getD, hi] using this
end Go.Ab

namespace Go.Ab
open Go Go.Proofs
theorem laws_szStore_DD : DOk Try.prog (DD [(56, dP D_laws_szEntryS), (62, dP D_laws_szSpareS)]) := DD_cons D_laws_szEntryS_ok.e <| DD_cons D_laws_szSpareS_ok.e <| DD_nil _
def laws_szStore (a0 : Store) (a1 : Int) : Int :=
  (bif decide ((laws_szSpareS a0.Spares a1) < 0) then (-1) else (bif decide ((laws_szEntryS a0.Entries (laws_szSpareS a0.Spares a1)) < 0) then (-1) else (laws_szEntryS a0.Entries (laws_szSpareS a0.Spares a1))))
theorem laws_szStore_den (a0 : Store) (a1 : Int) (hp0 : -1 ≤ a1) (hp1 : a1 ≤ 1048576) : Den Try.prog 15 [.agg (eStore a0), .int .i64 a1] (.int .i64 (laws_szStore a0 a1)) := by
  generalize hR : laws_szStore a0 a1 = r
  unfold laws_szStore at hR
  refine den_intro G_ok Try.func15 (by kernel_rfl) rfl Try.ntmps15 (by rw [Try.results15]) (by simp) rfl ?_
  intro c hL hc hk
  obtain ⟨hL0, hL1, _⟩ := hL
  have hw0 : bwStore a0 := Store_lens a0 hL0
  clear hL0 hL1
  simp only [pars, Nat.zero_add]
  have hq := hw0
  obtain ⟨⟨g1, g2⟩, g3, g4⟩ := hq
  have hf1 := laws_szSpareS_facts a0.Spares a1 hp0 hp1 g1 g2
  refine AWP.seq ?_
  refine AWP.regS G_ok laws_szStore_DD hc (by kernel_rfl) (fun K hK => ?_); simp only [ea, gv, sv, D_laws_szEntryS, D_laws_szSpareS, reduceCtorEq, reduceIte, Nat.reduceBEq, Nat.reduceAdd, Nat.reduceEqDiff, Nat.reduceLT, Nat.reduceLeDiff, Nat.reduceMul, Nat.reduceSub, BEq.rfl, beq_self_eq_true, Int.reduceToNat]
  (refine hK _ ?_)
  clear hK K
  refine AWP.seq ?_
  refine AWP.regS G_ok laws_szStore_DD hc (by kernel_rfl) (fun K hK => ?_); simp only [ea, gv, sv, D_laws_szEntryS, D_laws_szSpareS, reduceCtorEq, reduceIte, Nat.reduceBEq, Nat.reduceAdd, Nat.reduceEqDiff, Nat.reduceLT, Nat.reduceLeDiff, Nat.reduceMul, Nat.reduceSub, BEq.rfl, beq_self_eq_true, Int.reduceToNat]
  (refine ⟨by (trivial), hK _ ?_⟩)
  clear hK K
  refine AWP.seq ?_
  refine AWP.seq ?_
  refine AWP.regS G_ok laws_szStore_DD hc (by kernel_rfl) (fun K hK => ?_); simp only [ea, gv, sv, D_laws_szEntryS, D_laws_szSpareS, reduceCtorEq, reduceIte, Nat.reduceBEq, Nat.reduceAdd, Nat.reduceEqDiff, Nat.reduceLT, Nat.reduceLeDiff, Nat.reduceMul, Nat.reduceSub, BEq.rfl, beq_self_eq_true, Int.reduceToNat]
  (refine hK _ ?_)
  clear hK K
  refine AWP.cond rfl (fun hb => ?_) (fun hb => ?_)
  · (simp only [hb, cond_true] at hR)
    refine AWP.seq ?_
    refine AWP.regS G_ok laws_szStore_DD hc (by kernel_rfl) (fun K hK => ?_); simp only [ea, gv, sv, D_laws_szEntryS, D_laws_szSpareS, reduceCtorEq, reduceIte, Nat.reduceBEq, Nat.reduceAdd, Nat.reduceEqDiff, Nat.reduceLT, Nat.reduceLeDiff, Nat.reduceMul, Nat.reduceSub, BEq.rfl, beq_self_eq_true, Int.reduceToNat]
    (refine hK _ ?_)
    clear hK K
    refine AWP.ret ?_
    subst hR
    (simp only [en, si, ea, gv, sv, hk, reduceCtorEq, reduceIte, Nat.reduceBEq, Nat.reduceAdd, Nat.reduceEqDiff, Nat.reduceLT, Nat.reduceLeDiff, Nat.reduceMul, Nat.reduceSub, BEq.rfl, beq_self_eq_true, Int.reduceToNat]; done)
  · (simp only [hb, cond_false] at hR)
    refine AWP.skip ?_
    refine AWP.seq ?_
    refine AWP.regS G_ok laws_szStore_DD hc (by kernel_rfl) (fun K hK => ?_); simp only [ea, gv, sv, D_laws_szEntryS, D_laws_szSpareS, reduceCtorEq, reduceIte, Nat.reduceBEq, Nat.reduceAdd, Nat.reduceEqDiff, Nat.reduceLT, Nat.reduceLeDiff, Nat.reduceMul, Nat.reduceSub, BEq.rfl, beq_self_eq_true, Int.reduceToNat]
    (refine ⟨by (omega), hK _ ?_⟩)
    clear hK K
    refine AWP.seq ?_
    refine AWP.seq ?_
    refine AWP.regS G_ok laws_szStore_DD hc (by kernel_rfl) (fun K hK => ?_); simp only [ea, gv, sv, D_laws_szEntryS, D_laws_szSpareS, reduceCtorEq, reduceIte, Nat.reduceBEq, Nat.reduceAdd, Nat.reduceEqDiff, Nat.reduceLT, Nat.reduceLeDiff, Nat.reduceMul, Nat.reduceSub, BEq.rfl, beq_self_eq_true, Int.reduceToNat]
    (refine hK _ ?_)
    clear hK K
    refine AWP.cond rfl (fun hb => ?_) (fun hb => ?_)
    · (simp only [hb, cond_true] at hR)
      refine AWP.seq ?_
      refine AWP.regS G_ok laws_szStore_DD hc (by kernel_rfl) (fun K hK => ?_); simp only [ea, gv, sv, D_laws_szEntryS, D_laws_szSpareS, reduceCtorEq, reduceIte, Nat.reduceBEq, Nat.reduceAdd, Nat.reduceEqDiff, Nat.reduceLT, Nat.reduceLeDiff, Nat.reduceMul, Nat.reduceSub, BEq.rfl, beq_self_eq_true, Int.reduceToNat]
      (refine hK _ ?_)
      clear hK K
      refine AWP.ret ?_
      subst hR
      (simp only [en, si, ea, gv, sv, hk, reduceCtorEq, reduceIte, Nat.reduceBEq, Nat.reduceAdd, Nat.reduceEqDiff, Nat.reduceLT, Nat.reduceLeDiff, Nat.reduceMul, Nat.reduceSub, BEq.rfl, beq_self_eq_true, Int.reduceToNat]; done)
    · (simp only [hb, cond_false] at hR)
      refine AWP.skip ?_
      refine AWP.seq ?_
      refine AWP.regS G_ok laws_szStore_DD hc (by kernel_rfl) (fun K hK => ?_); simp only [ea, gv, sv, D_laws_szEntryS, D_laws_szSpareS, reduceCtorEq, reduceIte, Nat.reduceBEq, Nat.reduceAdd, Nat.reduceEqDiff, Nat.reduceLT, Nat.reduceLeDiff, Nat.reduceMul, Nat.reduceSub, BEq.rfl, beq_self_eq_true, Int.reduceToNat]
      (refine hK _ ?_)
      clear hK K
      refine AWP.ret ?_
      subst hR
      (simp only [en, si, ea, gv, sv, hk, reduceCtorEq, reduceIte, Nat.reduceBEq, Nat.reduceAdd, Nat.reduceEqDiff, Nat.reduceLT, Nat.reduceLeDiff, Nat.reduceMul, Nat.reduceSub, BEq.rfl, beq_self_eq_true, Int.reduceToNat]; done)
def D_laws_szStore : DF
  | [x0, x1] => some (.int .i64 (laws_szStore (rdG dStore x0) (rdI x1)), false, [wG eStore dStore x0, wI .i64 x1, -1 ≤ (rdI x1), (rdI x1) ≤ 1048576])
  | _ => none
theorem D_laws_szStore_ok : OkD Try.prog 15 D_laws_szStore := by
  intro xs r z ob h ho
  unfold D_laws_szStore at h
  split at h
  · simp only [Option.some.injEq, Prod.mk.injEq] at h
    obtain ⟨rfl, rfl, rfl⟩ := h
    obtain ⟨h0, h1, hp0, hp1, _⟩ := ho
    exact Den.sim (laws_szStore_den _ _ hp0 hp1) (simOL_cons (wG_sim h0).1 <| simOL_cons (wI_sim h1).1 <| trivial) (noIdL_cons (wG_sim h0).2 <| noIdL_cons (wI_sim h1).2 <| rfl) rfl
  · cases h
end Go.Ab

namespace Go.Ab
open Go Go.Proofs
theorem laws_szStore_facts (a : Store) (n : Int) (h0 : -1 ≤ n) (h1 : n ≤ 1048576) (hx : bwStore a) :
    -1 ≤ laws_szStore a n ∧ laws_szStore a n ≤ n ∧ (¬ laws_szStore a n < 0 → bdStore a) := by
  obtain ⟨⟨g1, g2⟩, g3, g4⟩ := hx
  have hf1 := laws_szSpareS_facts a.Spares n h0 h1 g1 g2
  have hf2 := laws_szEntryS_facts a.Entries (laws_szSpareS a.Spares n) (by omega) (by omega) g3 g4
  unfold laws_szStore
  cases hd : decide (laws_szSpareS a.Spares n < 0) with
  | true => simp; omega
  | false =>
    have hd := of_decide_eq_false hd
    simp only [cond_false]
    cases he : decide (laws_szEntryS a.Entries (laws_szSpareS a.Spares n) < 0) with
    | true => simp; omega
    | false =>
      have he := of_decide_eq_false he
      simp only [cond_false]
      have q1 := hf1.2.2 hd
      have q2 := hf2.2.2 he
      exact ⟨by omega, by omega, fun _ => ⟨⟨by omega, q1.2⟩, by omega, q2.2⟩⟩
end Go.Ab

namespace Go.Ab
open Go Go.Proofs
theorem laws_eqSpare_DD : DOk Try.prog (DD []) := DD_nil _
def laws_eqSpare (a0 : Spare) (a1 : Spare) : Bool :=
  (bif (a0.Name != a1.Name) then false else (bif (a0.Least != a1.Least) then false else (bif (a0.Most != a1.Most) then false else true)))
theorem laws_eqSpare_den (a0 : Spare) (a1 : Spare)  : Den Try.prog 116 [.agg (eSpare a0), .agg (eSpare a1)] (.bool (laws_eqSpare a0 a1)) := by
  generalize hR : laws_eqSpare a0 a1 = r
  unfold laws_eqSpare at hR
  refine den_intro G_ok Try.func116 (by kernel_rfl) rfl Try.ntmps116 (by rw [Try.results116]) (by simp) rfl ?_
  intro c hL hc hk
  obtain ⟨hL0, hL1, _⟩ := hL
  have hw0 : bwSpare a0 := Spare_lens a0 hL0
  have hw1 : bwSpare a1 := Spare_lens a1 hL1
  clear hL0 hL1
  simp only [pars, Nat.zero_add]
  refine AWP.seq ?_
  refine AWP.regS G_ok laws_eqSpare_DD hc (by kernel_rfl) (fun K hK => ?_); simp only [ea, gv, sv, reduceCtorEq, reduceIte, Nat.reduceBEq, Nat.reduceAdd, Nat.reduceEqDiff, Nat.reduceLT, Nat.reduceLeDiff, Nat.reduceMul, Nat.reduceSub, BEq.rfl, beq_self_eq_true, Int.reduceToNat]
  (refine hK _ ?_)
  clear hK K
  refine AWP.seq ?_
  refine AWP.seq ?_
  refine AWP.regS G_ok laws_eqSpare_DD hc (by kernel_rfl) (fun K hK => ?_); simp only [ea, gv, sv, reduceCtorEq, reduceIte, Nat.reduceBEq, Nat.reduceAdd, Nat.reduceEqDiff, Nat.reduceLT, Nat.reduceLeDiff, Nat.reduceMul, Nat.reduceSub, BEq.rfl, beq_self_eq_true, Int.reduceToNat]
  (refine hK _ ?_)
  clear hK K
  refine AWP.cond rfl (fun hb => ?_) (fun hb => ?_)
  · (simp only [hb, cond_true] at hR)
    refine AWP.seq ?_
    refine AWP.regS G_ok laws_eqSpare_DD hc (by kernel_rfl) (fun K hK => ?_); simp only [ea, gv, sv, reduceCtorEq, reduceIte, Nat.reduceBEq, Nat.reduceAdd, Nat.reduceEqDiff, Nat.reduceLT, Nat.reduceLeDiff, Nat.reduceMul, Nat.reduceSub, BEq.rfl, beq_self_eq_true, Int.reduceToNat]
    (refine hK _ ?_)
    clear hK K
    refine AWP.ret ?_
    subst hR
    (simp only [en, si, ea, gv, sv, hk, reduceCtorEq, reduceIte, Nat.reduceBEq, Nat.reduceAdd, Nat.reduceEqDiff, Nat.reduceLT, Nat.reduceLeDiff, Nat.reduceMul, Nat.reduceSub, BEq.rfl, beq_self_eq_true, Int.reduceToNat]; done)
  · (simp only [hb, cond_false] at hR)
    refine AWP.skip ?_
    refine AWP.seq ?_
    refine AWP.seq ?_
    refine AWP.regS G_ok laws_eqSpare_DD hc (by kernel_rfl) (fun K hK => ?_); simp only [ea, gv, sv, reduceCtorEq, reduceIte, Nat.reduceBEq, Nat.reduceAdd, Nat.reduceEqDiff, Nat.reduceLT, Nat.reduceLeDiff, Nat.reduceMul, Nat.reduceSub, BEq.rfl, beq_self_eq_true, Int.reduceToNat]
    (refine hK _ ?_)
    clear hK K
    refine AWP.cond rfl (fun hb => ?_) (fun hb => ?_)
    · (simp only [hb, cond_true] at hR)
      refine AWP.seq ?_
      refine AWP.regS G_ok laws_eqSpare_DD hc (by kernel_rfl) (fun K hK => ?_); simp only [ea, gv, sv, reduceCtorEq, reduceIte, Nat.reduceBEq, Nat.reduceAdd, Nat.reduceEqDiff, Nat.reduceLT, Nat.reduceLeDiff, Nat.reduceMul, Nat.reduceSub, BEq.rfl, beq_self_eq_true, Int.reduceToNat]
      (refine hK _ ?_)
      clear hK K
      refine AWP.ret ?_
      subst hR
      (simp only [en, si, ea, gv, sv, hk, reduceCtorEq, reduceIte, Nat.reduceBEq, Nat.reduceAdd, Nat.reduceEqDiff, Nat.reduceLT, Nat.reduceLeDiff, Nat.reduceMul, Nat.reduceSub, BEq.rfl, beq_self_eq_true, Int.reduceToNat]; done)
    · (simp only [hb, cond_false] at hR)
      refine AWP.skip ?_
      refine AWP.seq ?_
      refine AWP.seq ?_
      refine AWP.regS G_ok laws_eqSpare_DD hc (by kernel_rfl) (fun K hK => ?_); simp only [ea, gv, sv, reduceCtorEq, reduceIte, Nat.reduceBEq, Nat.reduceAdd, Nat.reduceEqDiff, Nat.reduceLT, Nat.reduceLeDiff, Nat.reduceMul, Nat.reduceSub, BEq.rfl, beq_self_eq_true, Int.reduceToNat]
      (refine hK _ ?_)
      clear hK K
      refine AWP.cond rfl (fun hb => ?_) (fun hb => ?_)
      · (simp only [hb, cond_true] at hR)
        refine AWP.seq ?_
        refine AWP.regS G_ok laws_eqSpare_DD hc (by kernel_rfl) (fun K hK => ?_); simp only [ea, gv, sv, reduceCtorEq, reduceIte, Nat.reduceBEq, Nat.reduceAdd, Nat.reduceEqDiff, Nat.reduceLT, Nat.reduceLeDiff, Nat.reduceMul, Nat.reduceSub, BEq.rfl, beq_self_eq_true, Int.reduceToNat]
        (refine hK _ ?_)
        clear hK K
        refine AWP.ret ?_
        subst hR
        (simp only [en, si, ea, gv, sv, hk, reduceCtorEq, reduceIte, Nat.reduceBEq, Nat.reduceAdd, Nat.reduceEqDiff, Nat.reduceLT, Nat.reduceLeDiff, Nat.reduceMul, Nat.reduceSub, BEq.rfl, beq_self_eq_true, Int.reduceToNat]; done)
      · (simp only [hb, cond_false] at hR)
        refine AWP.skip ?_
        refine AWP.seq ?_
        refine AWP.regS G_ok laws_eqSpare_DD hc (by kernel_rfl) (fun K hK => ?_); simp only [ea, gv, sv, reduceCtorEq, reduceIte, Nat.reduceBEq, Nat.reduceAdd, Nat.reduceEqDiff, Nat.reduceLT, Nat.reduceLeDiff, Nat.reduceMul, Nat.reduceSub, BEq.rfl, beq_self_eq_true, Int.reduceToNat]
        (refine hK _ ?_)
        clear hK K
        refine AWP.ret ?_
        subst hR
        (simp only [en, si, ea, gv, sv, hk, reduceCtorEq, reduceIte, Nat.reduceBEq, Nat.reduceAdd, Nat.reduceEqDiff, Nat.reduceLT, Nat.reduceLeDiff, Nat.reduceMul, Nat.reduceSub, BEq.rfl, beq_self_eq_true, Int.reduceToNat]; done)
def D_laws_eqSpare : DF
  | [x0, x1] => some (.bool (laws_eqSpare (rdG dSpare x0) (rdG dSpare x1)), false, [wG eSpare dSpare x0, wG eSpare dSpare x1])
  | _ => none
theorem D_laws_eqSpare_ok : OkD Try.prog 116 D_laws_eqSpare := by
  intro xs r z ob h ho
  unfold D_laws_eqSpare at h
  split at h
  · simp only [Option.some.injEq, Prod.mk.injEq] at h
    obtain ⟨rfl, rfl, rfl⟩ := h
    obtain ⟨h0, h1, _⟩ := ho
    exact Den.sim (laws_eqSpare_den _ _ ) (simOL_cons (wG_sim h0).1 <| simOL_cons (wG_sim h1).1 <| trivial) (noIdL_cons (wG_sim h0).2 <| noIdL_cons (wG_sim h1).2 <| rfl) rfl
  · cases h
end Go.Ab

namespace Go.Ab
open Go Go.Proofs
theorem laws_eqSpareS_DD : DOk Try.prog (DD [(116, dP D_laws_eqSpare)]) := DD_cons D_laws_eqSpare_ok.e <| DD_nil _
def laws_eqSpareS_b1 (a0 : (List Spare)) (a1 : (List Spare)) (i1 : Nat) (s1 : Unit) : Except (Bool) (Unit) :=
  (bif (!(laws_eqSpare (a0.getD i1 default) (a1.getD i1 default))) then .error false else .ok ())
def laws_eqSpareS (a0 : (List Spare)) (a1 : (List Spare)) : Bool :=
  (bif ((a0.length : Int) != (a1.length : Int)) then false else (match loopR (laws_eqSpareS_b1 a0 a1) (a0.length - 0) 0 () with | .error e => e | .ok s1 => true))
theorem laws_eqSpareS_den (a0 : (List Spare)) (a1 : (List Spare))  : Den Try.prog 73 [encL 3 eSpare a0, encL 3 eSpare a1] (.bool (laws_eqSpareS a0 a1)) := by
  generalize hR : laws_eqSpareS a0 a1 = r
  unfold laws_eqSpareS at hR
  refine den_intro G_ok Try.func73 (by kernel_rfl) rfl Try.ntmps73 (by rw [Try.results73]) (by simp) rfl ?_
  intro c hL hc hk
  obtain ⟨hL0, hL1, _⟩ := hL
  have hw0 : a0.length < 9223372036854775808 := Nat.lt_succ_of_le (lens_encL hL0).1
  have hw1 : ∀ v ∈ a0, bwSpare v := fun v hv => Spare_lens v ((lens_encL hL0).2 v hv)
  have hw2 : a1.length < 9223372036854775808 := Nat.lt_succ_of_le (lens_encL hL1).1
  have hw3 : ∀ v ∈ a1, bwSpare v := fun v hv => Spare_lens v ((lens_encL hL1).2 v hv)
  clear hL0 hL1
  simp only [pars, Nat.zero_add]
  refine AWP.seq ?_
  refine AWP.regS G_ok laws_eqSpareS_DD hc (by kernel_rfl) (fun K hK => ?_); simp only [ea, gv, sv, D_laws_eqSpare, reduceCtorEq, reduceIte, Nat.reduceBEq, Nat.reduceAdd, Nat.reduceEqDiff, Nat.reduceLT, Nat.reduceLeDiff, Nat.reduceMul, Nat.reduceSub, BEq.rfl, beq_self_eq_true, Int.reduceToNat]
  (refine hK _ ?_)
  clear hK K
  refine AWP.seq ?_
  refine AWP.seq ?_
  refine AWP.regS G_ok laws_eqSpareS_DD hc (by kernel_rfl) (fun K hK => ?_); simp only [ea, gv, sv, D_laws_eqSpare, reduceCtorEq, reduceIte, Nat.reduceBEq, Nat.reduceAdd, Nat.reduceEqDiff, Nat.reduceLT, Nat.reduceLeDiff, Nat.reduceMul, Nat.reduceSub, BEq.rfl, beq_self_eq_true, Int.reduceToNat]
  (refine hK _ ?_)
  clear hK K
  refine AWP.cond rfl (fun hb => ?_) (fun hb => ?_)
  · (simp only [hb, cond_true] at hR)
    refine AWP.seq ?_
    refine AWP.regS G_ok laws_eqSpareS_DD hc (by kernel_rfl) (fun K hK => ?_); simp only [ea, gv, sv, D_laws_eqSpare, reduceCtorEq, reduceIte, Nat.reduceBEq, Nat.reduceAdd, Nat.reduceEqDiff, Nat.reduceLT, Nat.reduceLeDiff, Nat.reduceMul, Nat.reduceSub, BEq.rfl, beq_self_eq_true, Int.reduceToNat]
    (refine hK _ ?_)
    clear hK K
    refine AWP.ret ?_
    subst hR
    (simp only [en, si, ea, gv, sv, hk, reduceCtorEq, reduceIte, Nat.reduceBEq, Nat.reduceAdd, Nat.reduceEqDiff, Nat.reduceLT, Nat.reduceLeDiff, Nat.reduceMul, Nat.reduceSub, BEq.rfl, beq_self_eq_true, Int.reduceToNat]; done)
  · (simp only [hb, cond_false] at hR)
    refine AWP.skip ?_
    refine AWP.seq ?_
    refine AWP.seq ?_
    refine AWP.regS G_ok laws_eqSpareS_DD hc (by kernel_rfl) (fun K hK => ?_); simp only [ea, gv, sv, D_laws_eqSpare, reduceCtorEq, reduceIte, Nat.reduceBEq, Nat.reduceAdd, Nat.reduceEqDiff, Nat.reduceLT, Nat.reduceLeDiff, Nat.reduceMul, Nat.reduceSub, BEq.rfl, beq_self_eq_true, Int.reduceToNat]
    (refine hK _ ?_)
    clear hK K
    refine AWP.block ?_
    generalize hz1 : loopR (laws_eqSpareS_b1 a0 a1) (a0.length - 0) 0 () = z1 at hR
    refine AWP.range (laws_eqSpareS_b1 a0 a1) (fun i1 s1 => ⟨[(0, encL 3 eSpare a0), (1, encL 3 eSpare a1), (5, .int .i64 (i1 : Int))], []⟩) (fun i1 s1 => True) (a0.length) 0 () [] hz1 (by (omega)) (by (trivial)) (by (simp only [si, ea, gv, sv, hk, reduceCtorEq, reduceIte, Nat.reduceBEq, Nat.reduceAdd, Nat.reduceEqDiff, Nat.reduceLT, Nat.reduceLeDiff, Nat.reduceMul, Nat.reduceSub, BEq.rfl, beq_self_eq_true, Int.reduceToNat]; trivial)) ?_
    clear hz1
    intro i1 s1 hi1 hW1 hz1
    refine AWP.seq ?_
    refine AWP.seq ?_
    refine AWP.regS G_ok laws_eqSpareS_DD hc (by kernel_rfl) (fun K hK => ?_); simp only [ea, gv, sv, D_laws_eqSpare, reduceCtorEq, reduceIte, Nat.reduceBEq, Nat.reduceAdd, Nat.reduceEqDiff, Nat.reduceLT, Nat.reduceLeDiff, Nat.reduceMul, Nat.reduceSub, BEq.rfl, beq_self_eq_true, Int.reduceToNat]
    (refine hK _ ?_)
    clear hK K
    refine AWP.cond rfl (fun hb => ?_) (fun hb => ?_)
    · have hlt1 : i1 < a0.length := by ((simp only [ob, ln, bdv, sv] at *; omega))
      rw [loopR_lt hlt1] at hz1; simp only [laws_eqSpareS_b1] at hz1
      refine AWP.skip ?_
      refine AWP.seq ?_
      refine AWP.block ?_
      refine AWP.seq ?_
      refine AWP.regD mixed G_ok laws_eqSpareS_DD hc 8 (by kernel_rfl) (by kernel_rfl) (fun K hK => ?_); simp only [ea, gv, sv, D_laws_eqSpare, reduceCtorEq, reduceIte, Nat.reduceBEq, Nat.reduceAdd, Nat.reduceEqDiff, Nat.reduceLT, Nat.reduceLeDiff, Nat.reduceMul, Nat.reduceSub, BEq.rfl, beq_self_eq_true, Int.reduceToNat]
      (refine ⟨by ((simp only [ob, ln, bdv, sv] at *; omega)), hK _ ?_⟩)
      clear hK K
      refine AWP.cond rfl (fun hb => ?_) (fun hb => ?_)
      · (simp only [hb, cond_true] at hz1)
        refine AWP.seq ?_
        refine AWP.regS G_ok laws_eqSpareS_DD hc (by kernel_rfl) (fun K hK => ?_); simp only [ea, gv, sv, D_laws_eqSpare, reduceCtorEq, reduceIte, Nat.reduceBEq, Nat.reduceAdd, Nat.reduceEqDiff, Nat.reduceLT, Nat.reduceLeDiff, Nat.reduceMul, Nat.reduceSub, BEq.rfl, beq_self_eq_true, Int.reduceToNat]
        (refine hK _ ?_)
        clear hK K
        refine AWP.ret ?_
        subst hz1
        dsimp only at hR
        subst hR
        (simp only [en, si, ea, gv, sv, hk, reduceCtorEq, reduceIte, Nat.reduceBEq, Nat.reduceAdd, Nat.reduceEqDiff, Nat.reduceLT, Nat.reduceLeDiff, Nat.reduceMul, Nat.reduceSub, BEq.rfl, beq_self_eq_true, Int.reduceToNat]; done)
      · (simp only [hb, cond_false] at hz1)
        refine AWP.skip ?_
        refine AWP.regS G_ok laws_eqSpareS_DD hc (by kernel_rfl) (fun K hK => ?_); simp only [ea, gv, sv, D_laws_eqSpare, reduceCtorEq, reduceIte, Nat.reduceBEq, Nat.reduceAdd, Nat.reduceEqDiff, Nat.reduceLT, Nat.reduceLeDiff, Nat.reduceMul, Nat.reduceSub, BEq.rfl, beq_self_eq_true, Int.reduceToNat]
        (refine hK _ ?_)
        clear hK K
        exact ⟨_, [], hlt1, by (trivial), hz1, by (simp only [si, ea, gv, sv, hk, reduceCtorEq, reduceIte, Nat.reduceBEq, Nat.reduceAdd, Nat.reduceEqDiff, Nat.reduceLT, Nat.reduceLeDiff, Nat.reduceMul, Nat.reduceSub, BEq.rfl, beq_self_eq_true, Int.reduceToNat]; (and_intros <;> first | trivial | (rw [IntKind.wrap_i64]; omega)))⟩
    · obtain rfl : i1 = a0.length := by ((simp only [ob, ln, bdv, sv] at *; omega))
      rw [loopR_ge (Nat.le_refl _)] at hz1; subst hz1; dsimp only at hR
      refine AWP.exit ?_; refine exitTo_here ?_
      refine AWP.seq ?_
      refine AWP.regS G_ok laws_eqSpareS_DD hc (by kernel_rfl) (fun K hK => ?_); simp only [ea, gv, sv, D_laws_eqSpare, reduceCtorEq, reduceIte, Nat.reduceBEq, Nat.reduceAdd, Nat.reduceEqDiff, Nat.reduceLT, Nat.reduceLeDiff, Nat.reduceMul, Nat.reduceSub, BEq.rfl, beq_self_eq_true, Int.reduceToNat]
      (refine hK _ ?_)
      clear hK K
      refine AWP.ret ?_
      subst hR
      (simp only [en, si, ea, gv, sv, hk, reduceCtorEq, reduceIte, Nat.reduceBEq, Nat.reduceAdd, Nat.reduceEqDiff, Nat.reduceLT, Nat.reduceLeDiff, Nat.reduceMul, Nat.reduceSub, BEq.rfl, beq_self_eq_true, Int.reduceToNat]; done)
def D_laws_eqSpareS : DF
  | [x0, x1] => some (.bool (laws_eqSpareS (rdL dSpare x0) (rdL dSpare x1)), false, [wL 3 eSpare dSpare x0, wL 3 eSpare dSpare x1])
  | _ => none
theorem D_laws_eqSpareS_ok : OkD Try.prog 73 D_laws_eqSpareS := by
  intro xs r z ob h ho
  unfold D_laws_eqSpareS at h
  split at h
  · simp only [Option.some.injEq, Prod.mk.injEq] at h
    obtain ⟨rfl, rfl, rfl⟩ := h
    obtain ⟨h0, h1, _⟩ := ho
    exact Den.sim (laws_eqSpareS_den _ _ ) (simOL_cons (wL_sim h0).1 <| simOL_cons (wL_sim h1).1 <| trivial) (noIdL_cons (wL_sim h0).2 <| noIdL_cons (wL_sim h1).2 <| rfl) rfl
  · cases h
end Go.Ab

namespace Go.Ab
open Go Go.Proofs
theorem laws_eqSpare_dec (a b : Spare) : laws_eqSpare a b = decide (a = b) := by
  unfold laws_eqSpare
  by_cases h : a = b
  · subst h; simp
  · rw [decide_eq_false h]
    cases a; cases b
    simp only [Spare.mk.injEq] at h
    simp only [bne_iff_ne, Bool.cond_eq_ite, ite_eq_right_iff]
    (repeat' split) <;> simp_all
theorem laws_eqSpareS_dec (a b : List Spare) : laws_eqSpareS a b = decide (a = b) := by
  unfold laws_eqSpareS
  by_cases hl : a.length = b.length
  · have h1 : ((a.length : Int) != (b.length : Int)) = false := by simp [hl]
    rw [h1, cond_false, loopR_any (b := laws_eqSpareS_b1 a b) (fun j => !decide (a.getD j default = b.getD j default)) false (fun j u _ _ => by simp only [laws_eqSpareS_b1, laws_eqSpare_dec])]
    simp only [Nat.sub_zero, Nat.zero_add]
    rw [any_ne a b hl]
    by_cases h : a = b <;> simp [h]
  · have h1 : ((a.length : Int) != (b.length : Int)) = true := by simp; omega
    have h2 : ¬ a = b := fun e => hl (by rw [e])
    rw [h1, cond_true, decide_eq_false h2]
end Go.Ab

namespace Go.Ab
open Go Go.Proofs
theorem laws_eqEntry_DD : DOk Try.prog (DD []) := DD_nil _
def laws_eqEntry (a0 : Entry) (a1 : Entry) : Bool :=
  (bif (a0.Day != a1.Day) then false else (bif (a0.Item != a1.Item) then false else (bif (a0.Amount != a1.Amount) then false else true)))
theorem laws_eqEntry_den (a0 : Entry) (a1 : Entry)  : Den Try.prog 112 [.agg (eEntry a0), .agg (eEntry a1)] (.bool (laws_eqEntry a0 a1)) := by
  generalize hR : laws_eqEntry a0 a1 = r
  unfold laws_eqEntry at hR
  refine den_intro G_ok Try.func112 (by kernel_rfl) rfl Try.ntmps112 (by rw [Try.results112]) (by simp) rfl ?_
  intro c hL hc hk
  obtain ⟨hL0, hL1, _⟩ := hL
  have hw0 : bwEntry a0 := Entry_lens a0 hL0
  have hw1 : bwEntry a1 := Entry_lens a1 hL1
  clear hL0 hL1
  simp only [pars, Nat.zero_add]
  refine AWP.seq ?_
  refine AWP.regS G_ok laws_eqEntry_DD hc (by kernel_rfl) (fun K hK => ?_); simp only [ea, gv, sv, reduceCtorEq, reduceIte, Nat.reduceBEq, Nat.reduceAdd, Nat.reduceEqDiff, Nat.reduceLT, Nat.reduceLeDiff, Nat.reduceMul, Nat.reduceSub, BEq.rfl, beq_self_eq_true, Int.reduceToNat]
  (refine hK _ ?_)
  clear hK K
  refine AWP.seq ?_
  refine AWP.seq ?_
  refine AWP.regS G_ok laws_eqEntry_DD hc (by kernel_rfl) (fun K hK => ?_); simp only [ea, gv, sv, reduceCtorEq, reduceIte, Nat.reduceBEq, Nat.reduceAdd, Nat.reduceEqDiff, Nat.reduceLT, Nat.reduceLeDiff, Nat.reduceMul, Nat.reduceSub, BEq.rfl, beq_self_eq_true, Int.reduceToNat]
  (refine hK _ ?_)
  clear hK K
  refine AWP.cond rfl (fun hb => ?_) (fun hb => ?_)
  · (simp only [hb, cond_true] at hR)
    refine AWP.seq ?_
    refine AWP.regS G_ok laws_eqEntry_DD hc (by kernel_rfl) (fun K hK => ?_); simp only [ea, gv, sv, reduceCtorEq, reduceIte, Nat.reduceBEq, Nat.reduceAdd, Nat.reduceEqDiff, Nat.reduceLT, Nat.reduceLeDiff, Nat.reduceMul, Nat.reduceSub, BEq.rfl, beq_self_eq_true, Int.reduceToNat]
    (refine hK _ ?_)
    clear hK K
    refine AWP.ret ?_
    subst hR
    (simp only [en, si, ea, gv, sv, hk, reduceCtorEq, reduceIte, Nat.reduceBEq, Nat.reduceAdd, Nat.reduceEqDiff, Nat.reduceLT, Nat.reduceLeDiff, Nat.reduceMul, Nat.reduceSub, BEq.rfl, beq_self_eq_true, Int.reduceToNat]; done)
  · (simp only [hb, cond_false] at hR)
    refine AWP.skip ?_
    refine AWP.seq ?_
    refine AWP.seq ?_
    refine AWP.regS G_ok laws_eqEntry_DD hc (by kernel_rfl) (fun K hK => ?_); simp only [ea, gv, sv, reduceCtorEq, reduceIte, Nat.reduceBEq, Nat.reduceAdd, Nat.reduceEqDiff, Nat.reduceLT, Nat.reduceLeDiff, Nat.reduceMul, Nat.reduceSub, BEq.rfl, beq_self_eq_true, Int.reduceToNat]
    (refine hK _ ?_)
    clear hK K
    refine AWP.cond rfl (fun hb => ?_) (fun hb => ?_)
    · (simp only [hb, cond_true] at hR)
      refine AWP.seq ?_
      refine AWP.regS G_ok laws_eqEntry_DD hc (by kernel_rfl) (fun K hK => ?_); simp only [ea, gv, sv, reduceCtorEq, reduceIte, Nat.reduceBEq, Nat.reduceAdd, Nat.reduceEqDiff, Nat.reduceLT, Nat.reduceLeDiff, Nat.reduceMul, Nat.reduceSub, BEq.rfl, beq_self_eq_true, Int.reduceToNat]
      (refine hK _ ?_)
      clear hK K
      refine AWP.ret ?_
      subst hR
      (simp only [en, si, ea, gv, sv, hk, reduceCtorEq, reduceIte, Nat.reduceBEq, Nat.reduceAdd, Nat.reduceEqDiff, Nat.reduceLT, Nat.reduceLeDiff, Nat.reduceMul, Nat.reduceSub, BEq.rfl, beq_self_eq_true, Int.reduceToNat]; done)
    · (simp only [hb, cond_false] at hR)
      refine AWP.skip ?_
      refine AWP.seq ?_
      refine AWP.seq ?_
      refine AWP.regS G_ok laws_eqEntry_DD hc (by kernel_rfl) (fun K hK => ?_); simp only [ea, gv, sv, reduceCtorEq, reduceIte, Nat.reduceBEq, Nat.reduceAdd, Nat.reduceEqDiff, Nat.reduceLT, Nat.reduceLeDiff, Nat.reduceMul, Nat.reduceSub, BEq.rfl, beq_self_eq_true, Int.reduceToNat]
      (refine hK _ ?_)
      clear hK K
      refine AWP.cond rfl (fun hb => ?_) (fun hb => ?_)
      · (simp only [hb, cond_true] at hR)
        refine AWP.seq ?_
        refine AWP.regS G_ok laws_eqEntry_DD hc (by kernel_rfl) (fun K hK => ?_); simp only [ea, gv, sv, reduceCtorEq, reduceIte, Nat.reduceBEq, Nat.reduceAdd, Nat.reduceEqDiff, Nat.reduceLT, Nat.reduceLeDiff, Nat.reduceMul, Nat.reduceSub, BEq.rfl, beq_self_eq_true, Int.reduceToNat]
        (refine hK _ ?_)
        clear hK K
        refine AWP.ret ?_
        subst hR
        (simp only [en, si, ea, gv, sv, hk, reduceCtorEq, reduceIte, Nat.reduceBEq, Nat.reduceAdd, Nat.reduceEqDiff, Nat.reduceLT, Nat.reduceLeDiff, Nat.reduceMul, Nat.reduceSub, BEq.rfl, beq_self_eq_true, Int.reduceToNat]; done)
      · (simp only [hb, cond_false] at hR)
        refine AWP.skip ?_
        refine AWP.seq ?_
        refine AWP.regS G_ok laws_eqEntry_DD hc (by kernel_rfl) (fun K hK => ?_); simp only [ea, gv, sv, reduceCtorEq, reduceIte, Nat.reduceBEq, Nat.reduceAdd, Nat.reduceEqDiff, Nat.reduceLT, Nat.reduceLeDiff, Nat.reduceMul, Nat.reduceSub, BEq.rfl, beq_self_eq_true, Int.reduceToNat]
        (refine hK _ ?_)
        clear hK K
        refine AWP.ret ?_
        subst hR
        (simp only [en, si, ea, gv, sv, hk, reduceCtorEq, reduceIte, Nat.reduceBEq, Nat.reduceAdd, Nat.reduceEqDiff, Nat.reduceLT, Nat.reduceLeDiff, Nat.reduceMul, Nat.reduceSub, BEq.rfl, beq_self_eq_true, Int.reduceToNat]; done)
def D_laws_eqEntry : DF
  | [x0, x1] => some (.bool (laws_eqEntry (rdG dEntry x0) (rdG dEntry x1)), false, [wG eEntry dEntry x0, wG eEntry dEntry x1])
  | _ => none
theorem D_laws_eqEntry_ok : OkD Try.prog 112 D_laws_eqEntry := by
  intro xs r z ob h ho
  unfold D_laws_eqEntry at h
  split at h
  · simp only [Option.some.injEq, Prod.mk.injEq] at h
    obtain ⟨rfl, rfl, rfl⟩ := h
    obtain ⟨h0, h1, _⟩ := ho
    exact Den.sim (laws_eqEntry_den _ _ ) (simOL_cons (wG_sim h0).1 <| simOL_cons (wG_sim h1).1 <| trivial) (noIdL_cons (wG_sim h0).2 <| noIdL_cons (wG_sim h1).2 <| rfl) rfl
  · cases h
end Go.Ab

namespace Go.Ab
open Go Go.Proofs
theorem laws_eqEntryS_DD : DOk Try.prog (DD [(112, dP D_laws_eqEntry)]) := DD_cons D_laws_eqEntry_ok.e <| DD_nil _
def laws_eqEntryS_b1 (a0 : (List Entry)) (a1 : (List Entry)) (i1 : Nat) (s1 : Unit) : Except (Bool) (Unit) :=
  (bif (!(laws_eqEntry (a0.getD i1 default) (a1.getD i1 default))) then .error false else .ok ())
def laws_eqEntryS (a0 : (List Entry)) (a1 : (List Entry)) : Bool :=
  (bif ((a0.length : Int) != (a1.length : Int)) then false else (match loopR (laws_eqEntryS_b1 a0 a1) (a0.length - 0) 0 () with | .error e => e | .ok s1 => true))
theorem laws_eqEntryS_den (a0 : (List Entry)) (a1 : (List Entry))  : Den Try.prog 60 [encL 3 eEntry a0, encL 3 eEntry a1] (.bool (laws_eqEntryS a0 a1)) := by
  generalize hR : laws_eqEntryS a0 a1 = r
  unfold laws_eqEntryS at hR
  refine den_intro G_ok Try.func60 (by kernel_rfl) rfl Try.ntmps60 (by rw [Try.results60]) (by simp) rfl ?_
  intro c hL hc hk
  obtain ⟨hL0, hL1, _⟩ := hL
  have hw0 : a0.length < 9223372036854775808 := Nat.lt_succ_of_le (lens_encL hL0).1
  have hw1 : ∀ v ∈ a0, bwEntry v := fun v hv => Entry_lens v ((lens_encL hL0).2 v hv)
  have hw2 : a1.length < 9223372036854775808 := Nat.lt_succ_of_le (lens_encL hL1).1
  have hw3 : ∀ v ∈ a1, bwEntry v := fun v hv => Entry_lens v ((lens_encL hL1).2 v hv)
  clear hL0 hL1
  simp only [pars, Nat.zero_add]
  refine AWP.seq ?_
  refine AWP.regS G_ok laws_eqEntryS_DD hc (by kernel_rfl) (fun K hK => ?_); simp only [ea, gv, sv, D_laws_eqEntry, reduceCtorEq, reduceIte, Nat.reduceBEq, Nat.reduceAdd, Nat.reduceEqDiff, Nat.reduceLT, Nat.reduceLeDiff, Nat.reduceMul, Nat.reduceSub, BEq.rfl, beq_self_eq_true, Int.reduceToNat]
  (refine hK _ ?_)
  clear hK K
  refine AWP.seq ?_
  refine AWP.seq ?_
  refine AWP.regS G_ok laws_eqEntryS_DD hc (by kernel_rfl) (fun K hK => ?_); simp only [ea, gv, sv, D_laws_eqEntry, reduceCtorEq, reduceIte, Nat.reduceBEq, Nat.reduceAdd, Nat.reduceEqDiff, Nat.reduceLT, Nat.reduceLeDiff, Nat.reduceMul, Nat.reduceSub, BEq.rfl, beq_self_eq_true, Int.reduceToNat]
  (refine hK _ ?_)
  clear hK K
  refine AWP.cond rfl (fun hb => ?_) (fun hb => ?_)
  · (simp only [hb, cond_true] at hR)
    refine AWP.seq ?_
    refine AWP.regS G_ok laws_eqEntryS_DD hc (by kernel_rfl) (fun K hK => ?_); simp only [ea, gv, sv, D_laws_eqEntry, reduceCtorEq, reduceIte, Nat.reduceBEq, Nat.reduceAdd, Nat.reduceEqDiff, Nat.reduceLT, Nat.reduceLeDiff, Nat.reduceMul, Nat.reduceSub, BEq.rfl, beq_self_eq_true, Int.reduceToNat]
    (refine hK _ ?_)
    clear hK K
    refine AWP.ret ?_
    subst hR
    (simp only [en, si, ea, gv, sv, hk, reduceCtorEq, reduceIte, Nat.reduceBEq, Nat.reduceAdd, Nat.reduceEqDiff, Nat.reduceLT, Nat.reduceLeDiff, Nat.reduceMul, Nat.reduceSub, BEq.rfl, beq_self_eq_true, Int.reduceToNat]; done)
  · (simp only [hb, cond_false] at hR)
    refine AWP.skip ?_
    refine AWP.seq ?_
    refine AWP.seq ?_
    refine AWP.regS G_ok laws_eqEntryS_DD hc (by kernel_rfl) (fun K hK => ?_); simp only [ea, gv, sv, D_laws_eqEntry, reduceCtorEq, reduceIte, Nat.reduceBEq, Nat.reduceAdd, Nat.reduceEqDiff, Nat.reduceLT, Nat.reduceLeDiff, Nat.reduceMul, Nat.reduceSub, BEq.rfl, beq_self_eq_true, Int.reduceToNat]
    (refine hK _ ?_)
    clear hK K
    refine AWP.block ?_
    generalize hz1 : loopR (laws_eqEntryS_b1 a0 a1) (a0.length - 0) 0 () = z1 at hR
    refine AWP.range (laws_eqEntryS_b1 a0 a1) (fun i1 s1 => ⟨[(0, encL 3 eEntry a0), (1, encL 3 eEntry a1), (5, .int .i64 (i1 : Int))], []⟩) (fun i1 s1 => True) (a0.length) 0 () [] hz1 (by (omega)) (by (trivial)) (by (simp only [si, ea, gv, sv, hk, reduceCtorEq, reduceIte, Nat.reduceBEq, Nat.reduceAdd, Nat.reduceEqDiff, Nat.reduceLT, Nat.reduceLeDiff, Nat.reduceMul, Nat.reduceSub, BEq.rfl, beq_self_eq_true, Int.reduceToNat]; trivial)) ?_
    clear hz1
    intro i1 s1 hi1 hW1 hz1
    refine AWP.seq ?_
    refine AWP.seq ?_
    refine AWP.regS G_ok laws_eqEntryS_DD hc (by kernel_rfl) (fun K hK => ?_); simp only [ea, gv, sv, D_laws_eqEntry, reduceCtorEq, reduceIte, Nat.reduceBEq, Nat.reduceAdd, Nat.reduceEqDiff, Nat.reduceLT, Nat.reduceLeDiff, Nat.reduceMul, Nat.reduceSub, BEq.rfl, beq_self_eq_true, Int.reduceToNat]
    (refine hK _ ?_)
    clear hK K
    refine AWP.cond rfl (fun hb => ?_) (fun hb => ?_)
    · have hlt1 : i1 < a0.length := by ((simp only [ob, ln, bdv, sv] at *; omega))
      rw [loopR_lt hlt1] at hz1; simp only [laws_eqEntryS_b1] at hz1
      refine AWP.skip ?_
      refine AWP.seq ?_
      refine AWP.block ?_
      refine AWP.seq ?_
      refine AWP.regD mixed G_ok laws_eqEntryS_DD hc 8 (by kernel_rfl) (by kernel_rfl) (fun K hK => ?_); simp only [ea, gv, sv, D_laws_eqEntry, reduceCtorEq, reduceIte, Nat.reduceBEq, Nat.reduceAdd, Nat.reduceEqDiff, Nat.reduceLT, Nat.reduceLeDiff, Nat.reduceMul, Nat.reduceSub, BEq.rfl, beq_self_eq_true, Int.reduceToNat]
      (refine ⟨by ((simp only [ob, ln, bdv, sv] at *; omega)), hK _ ?_⟩)
      clear hK K
      refine AWP.cond rfl (fun hb => ?_) (fun hb => ?_)
      · (simp only [hb, cond_true] at hz1)
        refine AWP.seq ?_
        refine AWP.regS G_ok laws_eqEntryS_DD hc (by kernel_rfl) (fun K hK => ?_); simp only [ea, gv, sv, D_laws_eqEntry, reduceCtorEq, reduceIte, Nat.reduceBEq, Nat.reduceAdd, Nat.reduceEqDiff, Nat.reduceLT, Nat.reduceLeDiff, Nat.reduceMul, Nat.reduceSub, BEq.rfl, beq_self_eq_true, Int.reduceToNat]
        (refine hK _ ?_)
        clear hK K
        refine AWP.ret ?_
        subst hz1
        dsimp only at hR
        subst hR
        (simp only [en, si, ea, gv, sv, hk, reduceCtorEq, reduceIte, Nat.reduceBEq, Nat.reduceAdd, Nat.reduceEqDiff, Nat.reduceLT, Nat.reduceLeDiff, Nat.reduceMul, Nat.reduceSub, BEq.rfl, beq_self_eq_true, Int.reduceToNat]; done)
      · (simp only [hb, cond_false] at hz1)
        refine AWP.skip ?_
        refine AWP.regS G_ok laws_eqEntryS_DD hc (by kernel_rfl) (fun K hK => ?_); simp only [ea, gv, sv, D_laws_eqEntry, reduceCtorEq, reduceIte, Nat.reduceBEq, Nat.reduceAdd, Nat.reduceEqDiff, Nat.reduceLT, Nat.reduceLeDiff, Nat.reduceMul, Nat.reduceSub, BEq.rfl, beq_self_eq_true, Int.reduceToNat]
        (refine hK _ ?_)
        clear hK K
        exact ⟨_, [], hlt1, by (trivial), hz1, by (simp only [si, ea, gv, sv, hk, reduceCtorEq, reduceIte, Nat.reduceBEq, Nat.reduceAdd, Nat.reduceEqDiff, Nat.reduceLT, Nat.reduceLeDiff, Nat.reduceMul, Nat.reduceSub, BEq.rfl, beq_self_eq_true, Int.reduceToNat]; (and_intros <;> first | trivial | (rw [IntKind.wrap_i64]; omega)))⟩
    · obtain rfl : i1 = a0.length := by ((simp only [ob, ln, bdv, sv] at *; omega))
      rw [loopR_ge (Nat.le_refl _)] at hz1; subst hz1; dsimp only at hR
      refine AWP.exit ?_; refine exitTo_here ?_
      refine AWP.seq ?_
      refine AWP.regS G_ok laws_eqEntryS_DD hc (by kernel_rfl) (fun K hK => ?_); simp only [ea, gv, sv, D_laws_eqEntry, reduceCtorEq, reduceIte, Nat.reduceBEq, Nat.reduceAdd, Nat.reduceEqDiff, Nat.reduceLT, Nat.reduceLeDiff, Nat.reduceMul, Nat.reduceSub, BEq.rfl, beq_self_eq_true, Int.reduceToNat]
      (refine hK _ ?_)
      clear hK K
      refine AWP.ret ?_
      subst hR
      (simp only [en, si, ea, gv, sv, hk, reduceCtorEq, reduceIte, Nat.reduceBEq, Nat.reduceAdd, Nat.reduceEqDiff, Nat.reduceLT, Nat.reduceLeDiff, Nat.reduceMul, Nat.reduceSub, BEq.rfl, beq_self_eq_true, Int.reduceToNat]; done)
def D_laws_eqEntryS : DF
  | [x0, x1] => some (.bool (laws_eqEntryS (rdL dEntry x0) (rdL dEntry x1)), false, [wL 3 eEntry dEntry x0, wL 3 eEntry dEntry x1])
  | _ => none
theorem D_laws_eqEntryS_ok : OkD Try.prog 60 D_laws_eqEntryS := by
  intro xs r z ob h ho
  unfold D_laws_eqEntryS at h
  split at h
  · simp only [Option.some.injEq, Prod.mk.injEq] at h
    obtain ⟨rfl, rfl, rfl⟩ := h
    obtain ⟨h0, h1, _⟩ := ho
    exact Den.sim (laws_eqEntryS_den _ _ ) (simOL_cons (wL_sim h0).1 <| simOL_cons (wL_sim h1).1 <| trivial) (noIdL_cons (wL_sim h0).2 <| noIdL_cons (wL_sim h1).2 <| rfl) rfl
  · cases h
end Go.Ab

namespace Go.Ab
open Go Go.Proofs
theorem laws_eqEntry_dec (a b : Entry) : laws_eqEntry a b = decide (a = b) := by
  unfold laws_eqEntry
  by_cases h : a = b
  · subst h; simp
  · rw [decide_eq_false h]
    cases a; cases b
    simp only [Entry.mk.injEq] at h
    simp only [bne_iff_ne, Bool.cond_eq_ite, ite_eq_right_iff]
    (repeat' split) <;> simp_all
theorem laws_eqEntryS_dec (a b : List Entry) : laws_eqEntryS a b = decide (a = b) := by
  unfold laws_eqEntryS
  by_cases hl : a.length = b.length
  · have h1 : ((a.length : Int) != (b.length : Int)) = false := by simp [hl]
    rw [h1, cond_false, loopR_any (b := laws_eqEntryS_b1 a b) (fun j => !decide (a.getD j default = b.getD j default)) false (fun j u _ _ => by simp only [laws_eqEntryS_b1, laws_eqEntry_dec])]
    simp only [Nat.sub_zero, Nat.zero_add]
    rw [any_ne a b hl]
    by_cases h : a = b <;> simp [h]
  · have h1 : ((a.length : Int) != (b.length : Int)) = true := by simp; omega
    have h2 : ¬ a = b := fun e => hl (by rw [e])
    rw [h1, cond_true, decide_eq_false h2]
end Go.Ab

namespace Go.Ab
open Go Go.Proofs
theorem impl_Store_spareOf_DD : DOk Try.prog (DD []) := DD_nil _
def impl_Store_spareOf_b1 (a0 : Store) (a1 : (List UInt8)) (s1 : Int) : Except (Sum ((Int × Bool)) (Int)) (Int) :=
  (bif (decide (s1 < (a0.Spares.length : Int)) && Op.bytesLess ((a0.Spares.getD ((s1).toNat) default).Name) a1) then .ok (IntKind.wrap .i64 (s1 + 1)) else .error (.inr s1))
def impl_Store_spareOf (a0 : Store) (a1 : (List UInt8)) : (Int × Bool) :=
  (match loopW (impl_Store_spareOf_b1 a0 a1) ((a0.Spares.length - ((0 : Int)).toNat) + 1) 0 with | .error (.inl e) => e | .error (.inr s1) => (s1, (decide (s1 < (a0.Spares.length : Int)) && (((a0.Spares.getD ((s1).toNat) default).Name) == a1))) | .ok _ => default)
theorem impl_Store_spareOf_den (a0 : Store) (a1 : (List UInt8))  : Den Try.prog 70 [.agg (eStore a0), .str a1] (.tup [.int .i64 ((impl_Store_spareOf a0 a1).1), .bool ((impl_Store_spareOf a0 a1).2)]) := by
  generalize hR : impl_Store_spareOf a0 a1 = r
  unfold impl_Store_spareOf at hR
  refine den_intro G_ok Try.func70 (by kernel_rfl) rfl Try.ntmps70 (by rw [Try.results70]) (by simp) rfl ?_
  intro c hL hc hk
  obtain ⟨hL0, hL1, _⟩ := hL
  have hw0 : bwStore a0 := Store_lens a0 hL0
  have hw1 : a1.length < 9223372036854775808 := Nat.lt_succ_of_le hL1
  clear hL0 hL1
  simp only [pars, Nat.zero_add]
  refine AWP.seq ?_
  refine AWP.regS G_ok impl_Store_spareOf_DD hc (by kernel_rfl) (fun K hK => ?_); simp only [ea, gv, sv, reduceCtorEq, reduceIte, Nat.reduceBEq, Nat.reduceAdd, Nat.reduceEqDiff, Nat.reduceLT, Nat.reduceLeDiff, Nat.reduceMul, Nat.reduceSub, BEq.rfl, beq_self_eq_true, Int.reduceToNat]
  (refine hK _ ?_)
  clear hK K
  refine AWP.seq ?_
  refine AWP.regS G_ok impl_Store_spareOf_DD hc (by kernel_rfl) (fun K hK => ?_); simp only [ea, gv, sv, reduceCtorEq, reduceIte, Nat.reduceBEq, Nat.reduceAdd, Nat.reduceEqDiff, Nat.reduceLT, Nat.reduceLeDiff, Nat.reduceMul, Nat.reduceSub, BEq.rfl, beq_self_eq_true, Int.reduceToNat]
  (refine hK _ ?_)
  clear hK K
  refine AWP.seq ?_
  refine AWP.block ?_
  generalize hz1 : loopW (impl_Store_spareOf_b1 a0 a1) ((a0.Spares.length - ((0 : Int)).toNat) + 1) 0 = z1 at hR
  refine AWP.whileW (impl_Store_spareOf_b1 a0 a1) (fun s1 => ⟨[(1, .str a1), (2, .ptr 0 0), (6, .int .i64 s1)], [.box [encL 3 eSpare a0.Spares, encL 3 eEntry a0.Entries]]⟩) (fun s1 => 0 ≤ s1 ∧ s1 ≤ a0.Spares.length) (fun s1 => a0.Spares.length - (s1).toNat) ((a0.Spares.length - ((0 : Int)).toNat) + 1) 0 [0] hz1 (by omega) (by ((and_intros <;> first | trivial | omega))) (by (simp only [si, ea, gv, sv, hk, reduceCtorEq, reduceIte, Nat.reduceBEq, Nat.reduceAdd, Nat.reduceEqDiff, Nat.reduceLT, Nat.reduceLeDiff, Nat.reduceMul, Nat.reduceSub, BEq.rfl, beq_self_eq_true, Int.reduceToNat]; trivial)) ?_
  clear hz1
  intro s1 k1 hW1 hm1 hz1
  simp only [impl_Store_spareOf_b1] at hz1
  refine AWP.seq ?_
  refine AWP.seq ?_
  refine AWP.regS G_ok impl_Store_spareOf_DD hc (by kernel_rfl) (fun K hK => ?_); simp only [ea, gv, sv, reduceCtorEq, reduceIte, Nat.reduceBEq, Nat.reduceAdd, Nat.reduceEqDiff, Nat.reduceLT, Nat.reduceLeDiff, Nat.reduceMul, Nat.reduceSub, BEq.rfl, beq_self_eq_true, Int.reduceToNat]
  (refine ⟨by ((simp only [ob, ln, bdv, sv] at *; omega)), hK _ ?_⟩)
  clear hK K
  refine AWP.cond rfl (fun hb => ?_) (fun hb => ?_)
  · (simp only [hb, cond_true] at hz1)
    refine AWP.skip ?_
    refine AWP.block ?_
    refine AWP.regS G_ok impl_Store_spareOf_DD hc (by kernel_rfl) (fun K hK => ?_); simp only [ea, gv, sv, reduceCtorEq, reduceIte, Nat.reduceBEq, Nat.reduceAdd, Nat.reduceEqDiff, Nat.reduceLT, Nat.reduceLeDiff, Nat.reduceMul, Nat.reduceSub, BEq.rfl, beq_self_eq_true, Int.reduceToNat]
    (refine hK _ ?_)
    clear hK K
    exact ⟨_, [0], by ((simp only [ob, ln, bdv, sv] at *; omega)), by ((and_intros <;> (simp only [ob, ln, bdv, sv] at *; omega))), hz1, by (simp only [si, ea, gv, sv, hk, reduceCtorEq, reduceIte, Nat.reduceBEq, Nat.reduceAdd, Nat.reduceEqDiff, Nat.reduceLT, Nat.reduceLeDiff, Nat.reduceMul, Nat.reduceSub, BEq.rfl, beq_self_eq_true, Int.reduceToNat]; trivial)⟩
  · (simp only [hb, cond_false] at hz1)
    refine AWP.exit ?_
    refine exitTo_here ?_
    subst hz1; dsimp only at hR
    refine AWP.seq ?_
    refine AWP.regP mixed G_ok impl_Store_spareOf_DD hc 17 [0, 1, 2, 3, 4, 5, 6, 7, 8, 9, 10, 11, 12, 13, 14, 15] (.alt 16 [] [2, 7, 8, 9, 10, 11, 12, 13, 14, 15] .leaf .stop) (by kernel_rfl) (by kernel_rfl) (by kernel_rfl) (fun K hK => ?_); simp only [rootP, runN, runP, recheck, nthO, ea, gv, sv, reduceCtorEq, reduceIte, Nat.reduceBEq, Nat.reduceAdd, Nat.reduceEqDiff, Nat.reduceLT, Nat.reduceLeDiff, Nat.reduceMul, Nat.reduceSub, BEq.rfl, beq_self_eq_true, Int.reduceToNat]
    repeat' apply And.intro
    all_goals first | refine hK _ ?_ | ((simp only [ob, ln, bdv, sv] at *; omega))
    all_goals clear hK K
    refine AWP.ret ?_
    subst hR
    (simp only [en, si, ea, gv, sv, hk, reduceCtorEq, reduceIte, Nat.reduceBEq, Nat.reduceAdd, Nat.reduceEqDiff, Nat.reduceLT, Nat.reduceLeDiff, Nat.reduceMul, Nat.reduceSub, BEq.rfl, beq_self_eq_true, Int.reduceToNat]; done)
def D_impl_Store_spareOf : DF
  | [x0, x1] => some (.tup [.int .i64 ((impl_Store_spareOf (rdG dStore x0) (rdS x1)).1), .bool ((impl_Store_spareOf (rdG dStore x0) (rdS x1)).2)], false, [wG eStore dStore x0, wS x1])
  | _ => none
theorem D_impl_Store_spareOf_ok : OkD Try.prog 70 D_impl_Store_spareOf := by
  intro xs r z ob h ho
  unfold D_impl_Store_spareOf at h
  split at h
  · simp only [Option.some.injEq, Prod.mk.injEq] at h
    obtain ⟨rfl, rfl, rfl⟩ := h
    obtain ⟨h0, h1, _⟩ := ho
    exact Den.sim (impl_Store_spareOf_den _ _ ) (simOL_cons (wG_sim h0).1 <| simOL_cons (wS_sim h1).1 <| trivial) (noIdL_cons (wG_sim h0).2 <| noIdL_cons (wS_sim h1).2 <| rfl) rfl
  · cases h
end Go.Ab

namespace Go.Ab
open Go Go.Proofs
theorem impl_Store_spareOf_spec (a : Store) (k : List UInt8) (hl : a.Spares.length < 9223372036854775808) : ∃ j : Nat, j ≤ a.Spares.length ∧ (∀ q, q < j → Op.bytesLess (a.Spares.getD q default).Name k = true) ∧ (j = a.Spares.length ∨ Op.bytesLess (a.Spares.getD j default).Name k = false) ∧
    impl_Store_spareOf a k = ((j : Int), decide (j < a.Spares.length ∧ (a.Spares.getD j default).Name = k)) := by
  unfold impl_Store_spareOf
  obtain ⟨j, h1, h2, h3, h4, h5⟩ := loopW_upto (ρ := Int × Bool) (b := impl_Store_spareOf_b1 a k) (fun j => Op.bytesLess (a.Spares.getD j default).Name k) a.Spares.length (fun j hj => by
    simp only [impl_Store_spareOf_b1, Int.toNat_natCast]
    have hw : j < a.Spares.length → IntKind.wrap .i64 ((j : Int) + 1) = ((j + 1 : Nat) : Int) := fun h => wrap_nat h hl
    by_cases hj' : j < a.Spares.length
    · rw [hw hj']
      simp [hj']
    · simp [hj']) ((a.Spares.length - ((0 : Int)).toNat) + 1) 0 (by omega) (by simp)
  rw [show ((0 : Nat) : Int) = 0 from rfl] at h5
  refine ⟨j, h2, fun q hq => h3 q (by omega) hq, h4, ?_⟩
  rw [h5]
  simp only [Int.toNat_natCast, Prod.mk.injEq, true_and]
  apply Bool.eq_iff_iff.2
  simp
theorem impl_Store_spareOf_ix (a : Store) (k : List UInt8) (hl : a.Spares.length < 9223372036854775808) (h : (impl_Store_spareOf a k).2 = true) : 0 ≤ (impl_Store_spareOf a k).1 ∧ (impl_Store_spareOf a k).1.toNat < a.Spares.length := by
  obtain ⟨j, _, _, _, h4⟩ := impl_Store_spareOf_spec a k hl
  rw [h4] at h ⊢
  simp only [decide_eq_true_eq] at h
  simp only; omega
theorem impl_Store_spareOf_le (a : Store) (k : List UInt8) (hl : a.Spares.length < 9223372036854775808) : 0 ≤ (impl_Store_spareOf a k).1 ∧ (impl_Store_spareOf a k).1 ≤ a.Spares.length := by
  obtain ⟨j, _, _, _, h4⟩ := impl_Store_spareOf_spec a k hl
  rw [h4]
  simp only
  omega
end Go.Ab

namespace Go.Ab
open Go Go.Proofs
theorem spec_ValidStore_DD : DOk Try.prog (DD [(63, dP D_spec_l29Ok)]) := DD_cons D_spec_l29Ok_ok.e <| DD_nil _
def spec_ValidStore (a0 : Store) : Bool :=
  (spec_l29Ok a0)
theorem spec_ValidStore_den (a0 : Store)  : Den Try.prog 16 [.agg (eStore a0)] (.bool (spec_ValidStore a0)) := by
  generalize hR : spec_ValidStore a0 = r
  unfold spec_ValidStore at hR
  refine den_intro G_ok Try.func16 (by kernel_rfl) rfl Try.ntmps16 (by rw [Try.results16]) (by simp) rfl ?_
  intro c hL hc hk
  obtain ⟨hL0, _⟩ := hL
  have hw0 : bwStore a0 := Store_lens a0 hL0
  clear hL0
  simp only [pars, Nat.zero_add]
  refine AWP.seq ?_
  refine AWP.regS G_ok spec_ValidStore_DD hc (by kernel_rfl) (fun K hK => ?_); simp only [ea, gv, sv, D_spec_l29Ok, reduceCtorEq, reduceIte, Nat.reduceBEq, Nat.reduceAdd, Nat.reduceEqDiff, Nat.reduceLT, Nat.reduceLeDiff, Nat.reduceMul, Nat.reduceSub, BEq.rfl, beq_self_eq_true, Int.reduceToNat]
  (refine hK _ ?_)
  clear hK K
  refine AWP.seq ?_
  refine AWP.regS G_ok spec_ValidStore_DD hc (by kernel_rfl) (fun K hK => ?_); simp only [ea, gv, sv, D_spec_l29Ok, reduceCtorEq, reduceIte, Nat.reduceBEq, Nat.reduceAdd, Nat.reduceEqDiff, Nat.reduceLT, Nat.reduceLeDiff, Nat.reduceMul, Nat.reduceSub, BEq.rfl, beq_self_eq_true, Int.reduceToNat]
  (refine hK _ ?_)
  clear hK K
  refine AWP.ret ?_
  subst hR
  (simp only [en, si, ea, gv, sv, hk, reduceCtorEq, reduceIte, Nat.reduceBEq, Nat.reduceAdd, Nat.reduceEqDiff, Nat.reduceLT, Nat.reduceLeDiff, Nat.reduceMul, Nat.reduceSub, BEq.rfl, beq_self_eq_true, Int.reduceToNat]; done)
def D_spec_ValidStore : DF
  | [x0] => some (.bool (spec_ValidStore (rdG dStore x0)), false, [wG eStore dStore x0])
  | _ => none
theorem D_spec_ValidStore_ok : OkD Try.prog 16 D_spec_ValidStore := by
  intro xs r z ob h ho
  unfold D_spec_ValidStore at h
  split at h
  · simp only [Option.some.injEq, Prod.mk.injEq] at h
    obtain ⟨rfl, rfl, rfl⟩ := h
    obtain ⟨h0, _⟩ := ho
    exact Den.sim (spec_ValidStore_den _ ) (simOL_cons (wG_sim h0).1 <| trivial) (noIdL_cons (wG_sim h0).2 <| rfl) rfl
  · cases h
end Go.Ab

namespace Go.Ab
open Go Go.Proofs
theorem impl_Store_sums_DD : DOk Try.prog (DD []) := DD_nil _
def impl_Store_sums_b1 (a0 : Store) (a1 : (List UInt8)) (i1 : Nat) (s1 : Int × List Int × List Int) : Except (((List Int) × (List Int))) (Int × List Int × List Int) :=
  (bif (((a0.Entries.getD i1 default).Item) == a1) then .ok (IntKind.wrap .i64 (s1.1 + ((a0.Entries.getD i1 default).Amount)), s1.2.1 ++ [(a0.Entries.getD i1 default).Day], s1.2.2 ++ [IntKind.wrap .i64 (s1.1 + ((a0.Entries.getD i1 default).Amount))]) else .ok (s1.1, s1.2.1, s1.2.2))
def impl_Store_sums (a0 : Store) (a1 : (List UInt8)) : ((List Int) × (List Int)) :=
  (match loopR (impl_Store_sums_b1 a0 a1) (a0.Entries.length - 0) 0 (0, ([] : List Int), ([] : List Int)) with | .error e => e | .ok s1 => (s1.2.1, s1.2.2))
theorem impl_Store_sums_den (a0 : Store) (a1 : (List UInt8)) (hb0 : bdStore a0) (hb1 : a1.length < 1099511627776) : Den Try.prog 65 [.agg (eStore a0), .str a1] (.tup [ownL 2 1 eIi64 ((impl_Store_sums a0 a1).1), ownL 2 1 eIi64 ((impl_Store_sums a0 a1).2)]) := by
  generalize hR : impl_Store_sums a0 a1 = r
  unfold impl_Store_sums at hR
  refine den_intro G_ok Try.func65 (by kernel_rfl) rfl Try.ntmps65 (by rw [Try.results65]) (by simp) rfl ?_
  intro c hL hc hk
  obtain ⟨hL0, hL1, _⟩ := hL
  have hw0 : bwStore a0 := Store_lens a0 hL0
  have hw1 : a1.length < 9223372036854775808 := Nat.lt_succ_of_le hL1
  clear hL0 hL1
  simp only [pars, Nat.zero_add]
  refine AWP.seq ?_
  refine AWP.regS G_ok impl_Store_sums_DD hc (by kernel_rfl) (fun K hK => ?_); simp only [ea, gv, sv, reduceCtorEq, reduceIte, Nat.reduceBEq, Nat.reduceAdd, Nat.reduceEqDiff, Nat.reduceLT, Nat.reduceLeDiff, Nat.reduceMul, Nat.reduceSub, BEq.rfl, beq_self_eq_true, Int.reduceToNat]
  (refine hK _ ?_)
  clear hK K
  refine AWP.seq ?_
  refine AWP.regS G_ok impl_Store_sums_DD hc (by kernel_rfl) (fun K hK => ?_); simp only [ea, gv, sv, reduceCtorEq, reduceIte, Nat.reduceBEq, Nat.reduceAdd, Nat.reduceEqDiff, Nat.reduceLT, Nat.reduceLeDiff, Nat.reduceMul, Nat.reduceSub, BEq.rfl, beq_self_eq_true, Int.reduceToNat]
  (refine hK _ ?_)
  clear hK K
  refine AWP.seq ?_
  refine AWP.regS G_ok impl_Store_sums_DD hc (by kernel_rfl) (fun K hK => ?_); simp only [ea, gv, sv, reduceCtorEq, reduceIte, Nat.reduceBEq, Nat.reduceAdd, Nat.reduceEqDiff, Nat.reduceLT, Nat.reduceLeDiff, Nat.reduceMul, Nat.reduceSub, BEq.rfl, beq_self_eq_true, Int.reduceToNat]
  (refine hK _ ?_)
  clear hK K
  refine AWP.seq ?_
  refine AWP.seq ?_
  refine AWP.regS G_ok impl_Store_sums_DD hc (by kernel_rfl) (fun K hK => ?_); simp only [ea, gv, sv, reduceCtorEq, reduceIte, Nat.reduceBEq, Nat.reduceAdd, Nat.reduceEqDiff, Nat.reduceLT, Nat.reduceLeDiff, Nat.reduceMul, Nat.reduceSub, BEq.rfl, beq_self_eq_true, Int.reduceToNat]
  (refine hK _ ?_)
  clear hK K
  refine AWP.block ?_
  refine AWP.lensS 14 rfl (fun hLn1 => ?_)
  generalize hz1 : loopR (impl_Store_sums_b1 a0 a1) (a0.Entries.length - 0) 0 (0, ([] : List Int), ([] : List Int)) = z1 at hR
  refine AWP.range (impl_Store_sums_b1 a0 a1) (fun i1 s1 => ⟨[(1, .str a1), (6, .ref 0 1 0 s1.2.1.length), (7, .ref 1 1 0 s1.2.2.length), (8, .int .i64 s1.1), (14, encL 3 eEntry a0.Entries), (15, .int .i64 (a0.Entries.length : Int)), (16, .int .i64 (i1 : Int))], [.arr 2 1 s1.2.1.length (fun j => eIi64 (s1.2.1.getD j default)), .arr 2 1 s1.2.2.length (fun j => eIi64 (s1.2.2.getD j default))]⟩) (fun i1 s1 => s1.2.1.length ≤ ([] : List Int).length + 1 * i1 ∧ s1.2.2.length ≤ ([] : List Int).length + 1 * i1) (a0.Entries.length) 0 (0, ([] : List Int), ([] : List Int)) [1, 2] hz1 (by (omega)) (by (trivial)) (by (simp only [si, ea, gv, sv, hk, reduceCtorEq, reduceIte, Nat.reduceBEq, Nat.reduceAdd, Nat.reduceEqDiff, Nat.reduceLT, Nat.reduceLeDiff, Nat.reduceMul, Nat.reduceSub, BEq.rfl, beq_self_eq_true, Int.reduceToNat]; trivial)) ?_
  clear hz1
  intro i1 s1 hi1 hW1 hz1
  refine AWP.seq ?_
  refine AWP.regS G_ok impl_Store_sums_DD hc (by kernel_rfl) (fun K hK => ?_); simp only [ea, gv, sv, reduceCtorEq, reduceIte, Nat.reduceBEq, Nat.reduceAdd, Nat.reduceEqDiff, Nat.reduceLT, Nat.reduceLeDiff, Nat.reduceMul, Nat.reduceSub, BEq.rfl, beq_self_eq_true, Int.reduceToNat]
  (refine hK _ ?_)
  clear hK K
  refine AWP.seq ?_
  refine AWP.cond rfl (fun hb => ?_) (fun hb => ?_)
  · have hlt1 : i1 < a0.Entries.length := by ((simp only [ob, ln, bdv, sv] at *; omega))
    rw [loopR_lt hlt1] at hz1; simp only [impl_Store_sums_b1] at hz1
    refine AWP.skip ?_
    refine AWP.seq ?_
    refine AWP.block ?_
    refine AWP.seq ?_
    refine AWP.regS G_ok impl_Store_sums_DD hc (by kernel_rfl) (fun K hK => ?_); simp only [ea, gv, sv, reduceCtorEq, reduceIte, Nat.reduceBEq, Nat.reduceAdd, Nat.reduceEqDiff, Nat.reduceLT, Nat.reduceLeDiff, Nat.reduceMul, Nat.reduceSub, BEq.rfl, beq_self_eq_true, Int.reduceToNat]
    (refine ⟨by (omega), hK _ ?_⟩)
    clear hK K
    refine AWP.seq ?_
    refine AWP.regS G_ok impl_Store_sums_DD hc (by kernel_rfl) (fun K hK => ?_); simp only [ea, gv, sv, reduceCtorEq, reduceIte, Nat.reduceBEq, Nat.reduceAdd, Nat.reduceEqDiff, Nat.reduceLT, Nat.reduceLeDiff, Nat.reduceMul, Nat.reduceSub, BEq.rfl, beq_self_eq_true, Int.reduceToNat]
    (refine hK _ ?_)
    clear hK K
    refine AWP.cond rfl (fun hb => ?_) (fun hb => ?_)
    · (simp only [hb, cond_true] at hz1)
      refine AWP.seq ?_
      refine AWP.regS G_ok impl_Store_sums_DD hc (by kernel_rfl) (fun K hK => ?_); simp only [ea, gv, sv, reduceCtorEq, reduceIte, Nat.reduceBEq, Nat.reduceAdd, Nat.reduceEqDiff, Nat.reduceLT, Nat.reduceLeDiff, Nat.reduceMul, Nat.reduceSub, BEq.rfl, beq_self_eq_true, Int.reduceToNat]
      (refine hK _ ?_)
      clear hK K
      refine AWP.regS G_ok impl_Store_sums_DD hc (by kernel_rfl) (fun K hK => ?_); simp only [ea, gv, sv, reduceCtorEq, reduceIte, Nat.reduceBEq, Nat.reduceAdd, Nat.reduceEqDiff, Nat.reduceLT, Nat.reduceLeDiff, Nat.reduceMul, Nat.reduceSub, BEq.rfl, beq_self_eq_true, Int.reduceToNat]
      (refine ⟨by (((try clear hK K); (repeat' (apply And.intro)) <;> first | omega | (simp only [ob, ln, bdv, sv] at *; omega))), hK _ ?_⟩)
      clear hK K
      refine AWP.regS G_ok impl_Store_sums_DD hc (by kernel_rfl) (fun K hK => ?_); simp only [ea, gv, sv, reduceCtorEq, reduceIte, Nat.reduceBEq, Nat.reduceAdd, Nat.reduceEqDiff, Nat.reduceLT, Nat.reduceLeDiff, Nat.reduceMul, Nat.reduceSub, BEq.rfl, beq_self_eq_true, Int.reduceToNat]
      (refine hK _ ?_)
      clear hK K
      exact ⟨_, [4, 6], hlt1, by ((and_intros <;> simp only [ob, ln] at * <;> omega)), hz1, by (simp only [si, ea, gv, sv, hk, reduceCtorEq, reduceIte, Nat.reduceBEq, Nat.reduceAdd, Nat.reduceEqDiff, Nat.reduceLT, Nat.reduceLeDiff, Nat.reduceMul, Nat.reduceSub, BEq.rfl, beq_self_eq_true, Int.reduceToNat]; (and_intros <;> first | trivial | (rw [IntKind.wrap_i64]; omega) | (simp only [ln]; done) | (intro j hj; simp only [pw, Bool.cond_eq_ite, Bool.and_eq_true, decide_eq_true_eq]; (try rw [subL_getD _ _ _ _ (by assumption)]); (try rw [clearL_getD _ _ _ _ (by omega)]); (repeat' split) <;> first | rfl | omega)))⟩
    · (simp only [hb, cond_false] at hz1)
      refine AWP.skip ?_
      refine AWP.regS G_ok impl_Store_sums_DD hc (by kernel_rfl) (fun K hK => ?_); simp only [ea, gv, sv, reduceCtorEq, reduceIte, Nat.reduceBEq, Nat.reduceAdd, Nat.reduceEqDiff, Nat.reduceLT, Nat.reduceLeDiff, Nat.reduceMul, Nat.reduceSub, BEq.rfl, beq_self_eq_true, Int.reduceToNat]
      (refine hK _ ?_)
      clear hK K
      exact ⟨_, [0, 1], hlt1, by ((and_intros <;> simp only [ob, ln] at * <;> omega)), hz1, by (simp only [si, ea, gv, sv, hk, reduceCtorEq, reduceIte, Nat.reduceBEq, Nat.reduceAdd, Nat.reduceEqDiff, Nat.reduceLT, Nat.reduceLeDiff, Nat.reduceMul, Nat.reduceSub, BEq.rfl, beq_self_eq_true, Int.reduceToNat]; (and_intros <;> first | trivial | (rw [IntKind.wrap_i64]; omega)))⟩
  · obtain rfl : i1 = a0.Entries.length := by ((simp only [ob, ln, bdv, sv] at *; omega))
    rw [loopR_ge (Nat.le_refl _)] at hz1; subst hz1; dsimp only at hR
    refine AWP.exit ?_; refine exitTo_here ?_
    refine AWP.seq ?_
    refine AWP.regS G_ok impl_Store_sums_DD hc (by kernel_rfl) (fun K hK => ?_); simp only [ea, gv, sv, reduceCtorEq, reduceIte, Nat.reduceBEq, Nat.reduceAdd, Nat.reduceEqDiff, Nat.reduceLT, Nat.reduceLeDiff, Nat.reduceMul, Nat.reduceSub, BEq.rfl, beq_self_eq_true, Int.reduceToNat]
    (refine hK _ ?_)
    clear hK K
    refine AWP.ret ?_
    subst hR
    (simp only [en, si, ea, gv, sv, hk, reduceCtorEq, reduceIte, Nat.reduceBEq, Nat.reduceAdd, Nat.reduceEqDiff, Nat.reduceLT, Nat.reduceLeDiff, Nat.reduceMul, Nat.reduceSub, BEq.rfl, beq_self_eq_true, Int.reduceToNat]; (and_intros <;> omega))
def D_impl_Store_sums : DF
  | [x0, x1] => some (.tup [ownL 2 1 eIi64 ((impl_Store_sums (rdG dStore x0) (rdS x1)).1), ownL 2 1 eIi64 ((impl_Store_sums (rdG dStore x0) (rdS x1)).2)], false, [wG eStore dStore x0, wS x1, bdStore (rdG dStore x0), (rdS x1).length < 1099511627776])
  | _ => none
def Dz_impl_Store_sums : DF
  | [x0, x1] => some (.tup [ownL 2 1 eIi64 ((impl_Store_sums (rdG dStore x0) (rdS x1)).1), ownL 2 1 eIi64 ((impl_Store_sums (rdG dStore x0) (rdS x1)).2)], true, [wG eStore dStore x0, wS x1, bdStore (rdG dStore x0), (rdS x1).length < 1099511627776])
  | _ => none
theorem D_impl_Store_sums_ok : OkD Try.prog 65 D_impl_Store_sums := by
  intro xs r z ob h ho
  unfold D_impl_Store_sums at h
  split at h
  · simp only [Option.some.injEq, Prod.mk.injEq] at h
    obtain ⟨rfl, rfl, rfl⟩ := h
    obtain ⟨h0, h1, hb0, hb1, _⟩ := ho
    exact Den.sim (impl_Store_sums_den _ _ hb0 hb1) (simOL_cons (wG_sim h0).1 <| simOL_cons (wS_sim h1).1 <| trivial) (noIdL_cons (wG_sim h0).2 <| noIdL_cons (wS_sim h1).2 <| rfl) rfl
  · cases h
theorem Dz_impl_Store_sums_ok : OkD Try.prog 65 Dz_impl_Store_sums := by
  intro xs r z ob h ho
  unfold Dz_impl_Store_sums at h
  split at h
  · simp only [Option.some.injEq, Prod.mk.injEq] at h
    obtain ⟨rfl, rfl, rfl⟩ := h
    obtain ⟨h0, h1, hb0, hb1, _⟩ := ho
    exact Den.sim (impl_Store_sums_den _ _ hb0 hb1) (simOL_cons (wG_sim h0).1 <| simOL_cons (wS_sim h1).1 <| trivial) (noIdL_cons (wG_sim h0).2 <| noIdL_cons (wS_sim h1).2 <| rfl) rfl
  · cases h
end Go.Ab

namespace Go.Ab
open Go Go.Proofs
theorem impl_isDigit_DD : DOk Try.prog (DD []) := DD_nil _
def impl_isDigit (a0 : Int) : Bool :=
  (decide (48 ≤ a0) && decide (a0 ≤ 57))
theorem impl_isDigit_den (a0 : Int)  : Den Try.prog 130 [.int .u8 a0] (.bool (impl_isDigit a0)) := by
  generalize hR : impl_isDigit a0 = r
  unfold impl_isDigit at hR
  refine den_intro G_ok Try.func130 (by kernel_rfl) rfl Try.ntmps130 (by rw [Try.results130]) (by simp) rfl ?_
  intro c hL hc hk
  clear hL
  simp only [pars, Nat.zero_add]
  refine AWP.seq ?_
  refine AWP.regS G_ok impl_isDigit_DD hc (by kernel_rfl) (fun K hK => ?_); simp only [ea, gv, sv, reduceCtorEq, reduceIte, Nat.reduceBEq, Nat.reduceAdd, Nat.reduceEqDiff, Nat.reduceLT, Nat.reduceLeDiff, Nat.reduceMul, Nat.reduceSub, BEq.rfl, beq_self_eq_true, Int.reduceToNat]
  (refine hK _ ?_)
  clear hK K
  refine AWP.seq ?_
  refine AWP.regS G_ok impl_isDigit_DD hc (by kernel_rfl) (fun K hK => ?_); simp only [ea, gv, sv, reduceCtorEq, reduceIte, Nat.reduceBEq, Nat.reduceAdd, Nat.reduceEqDiff, Nat.reduceLT, Nat.reduceLeDiff, Nat.reduceMul, Nat.reduceSub, BEq.rfl, beq_self_eq_true, Int.reduceToNat]
  (refine hK _ ?_)
  clear hK K
  refine AWP.ret ?_
  subst hR
  (simp only [en, si, ea, gv, sv, hk, reduceCtorEq, reduceIte, Nat.reduceBEq, Nat.reduceAdd, Nat.reduceEqDiff, Nat.reduceLT, Nat.reduceLeDiff, Nat.reduceMul, Nat.reduceSub, BEq.rfl, beq_self_eq_true, Int.reduceToNat]; done)
def D_impl_isDigit : DF
  | [x0] => some (.bool (impl_isDigit (rdI x0)), false, [wI .u8 x0])
  | _ => none
theorem D_impl_isDigit_ok : OkD Try.prog 130 D_impl_isDigit := by
  intro xs r z ob h ho
  unfold D_impl_isDigit at h
  split at h
  · simp only [Option.some.injEq, Prod.mk.injEq] at h
    obtain ⟨rfl, rfl, rfl⟩ := h
    obtain ⟨h0, _⟩ := ho
    exact Den.sim (impl_isDigit_den _ ) (simOL_cons (wI_sim h0).1 <| trivial) (noIdL_cons (wI_sim h0).2 <| rfl) rfl
  · cases h
end Go.Ab

namespace Go.Ab
open Go Go.Proofs
theorem impl_few_DD : DOk Try.prog (DD []) := DD_nil _
def impl_few (a0 : Int) (a1 : Int) : Bool :=
  decide (a0 ≤ a1)
theorem impl_few_den (a0 : Int) (a1 : Int)  : Den Try.prog 72 [.int .i64 a0, .int .i64 a1] (.bool (impl_few a0 a1)) := by
  generalize hR : impl_few a0 a1 = r
  unfold impl_few at hR
  refine den_intro G_ok Try.func72 (by kernel_rfl) rfl Try.ntmps72 (by rw [Try.results72]) (by simp) rfl ?_
  intro c hL hc hk
  clear hL
  simp only [pars, Nat.zero_add]
  refine AWP.seq ?_
  refine AWP.regS G_ok impl_few_DD hc (by kernel_rfl) (fun K hK => ?_); simp only [ea, gv, sv, reduceCtorEq, reduceIte, Nat.reduceBEq, Nat.reduceAdd, Nat.reduceEqDiff, Nat.reduceLT, Nat.reduceLeDiff, Nat.reduceMul, Nat.reduceSub, BEq.rfl, beq_self_eq_true, Int.reduceToNat]
  (refine hK _ ?_)
  clear hK K
  refine AWP.seq ?_
  refine AWP.regS G_ok impl_few_DD hc (by kernel_rfl) (fun K hK => ?_); simp only [ea, gv, sv, reduceCtorEq, reduceIte, Nat.reduceBEq, Nat.reduceAdd, Nat.reduceEqDiff, Nat.reduceLT, Nat.reduceLeDiff, Nat.reduceMul, Nat.reduceSub, BEq.rfl, beq_self_eq_true, Int.reduceToNat]
  (refine hK _ ?_)
  clear hK K
  refine AWP.ret ?_
  subst hR
  (simp only [en, si, ea, gv, sv, hk, reduceCtorEq, reduceIte, Nat.reduceBEq, Nat.reduceAdd, Nat.reduceEqDiff, Nat.reduceLT, Nat.reduceLeDiff, Nat.reduceMul, Nat.reduceSub, BEq.rfl, beq_self_eq_true, Int.reduceToNat]; done)
def D_impl_few : DF
  | [x0, x1] => some (.bool (impl_few (rdI x0) (rdI x1)), false, [wI .i64 x0, wI .i64 x1])
  | _ => none
theorem D_impl_few_ok : OkD Try.prog 72 D_impl_few := by
  intro xs r z ob h ho
  unfold D_impl_few at h
  split at h
  · simp only [Option.some.injEq, Prod.mk.injEq] at h
    obtain ⟨rfl, rfl, rfl⟩ := h
    obtain ⟨h0, h1, _⟩ := ho
    exact Den.sim (impl_few_den _ _ ) (simOL_cons (wI_sim h0).1 <| simOL_cons (wI_sim h1).1 <| trivial) (noIdL_cons (wI_sim h0).2 <| noIdL_cons (wI_sim h1).2 <| rfl) rfl
  · cases h
end Go.Ab

namespace Go.Ab
open Go Go.Proofs
theorem impl_IsName_DD : DOk Try.prog (DD [(130, dP D_impl_isDigit), (72, dP D_impl_few)]) := DD_cons D_impl_isDigit_ok.e <| DD_cons D_impl_few_ok.e <| DD_nil _
def impl_IsName_b1 (a0 : (List UInt8)) (i1 : Nat) (s1 : Unit) : Except (Bool) (Unit) :=
  (bif ((!(decide (97 ≤ ((a0.getD i1 0).toNat : Int)) && decide (((a0.getD i1 0).toNat : Int) ≤ 122))) && (((i1 : Int) == 0) || (!(impl_isDigit ((a0.getD i1 0).toNat : Int))))) then .error false else .ok ())
def impl_IsName (a0 : (List UInt8)) : Bool :=
  (match loopR (impl_IsName_b1 a0) (a0.length - 0) 0 () with | .error e => e | .ok s1 => ((a0 != []) && (impl_few (a0.length : Int) 10)))
theorem impl_IsName_den (a0 : (List UInt8))  : Den Try.prog 114 [.str a0] (.bool (impl_IsName a0)) := by
  generalize hR : impl_IsName a0 = r
  unfold impl_IsName at hR
  refine den_intro G_ok Try.func114 (by kernel_rfl) rfl Try.ntmps114 (by rw [Try.results114]) (by simp) rfl ?_
  intro c hL hc hk
  obtain ⟨hL0, _⟩ := hL
  have hw0 : a0.length < 9223372036854775808 := Nat.lt_succ_of_le hL0
  clear hL0
  simp only [pars, Nat.zero_add]
  refine AWP.seq ?_
  refine AWP.regS G_ok impl_IsName_DD hc (by kernel_rfl) (fun K hK => ?_); simp only [ea, gv, sv, D_impl_isDigit, D_impl_few, reduceCtorEq, reduceIte, Nat.reduceBEq, Nat.reduceAdd, Nat.reduceEqDiff, Nat.reduceLT, Nat.reduceLeDiff, Nat.reduceMul, Nat.reduceSub, BEq.rfl, beq_self_eq_true, Int.reduceToNat]
  (refine hK _ ?_)
  clear hK K
  refine AWP.seq ?_
  refine AWP.seq ?_
  refine AWP.regS G_ok impl_IsName_DD hc (by kernel_rfl) (fun K hK => ?_); simp only [ea, gv, sv, D_impl_isDigit, D_impl_few, reduceCtorEq, reduceIte, Nat.reduceBEq, Nat.reduceAdd, Nat.reduceEqDiff, Nat.reduceLT, Nat.reduceLeDiff, Nat.reduceMul, Nat.reduceSub, BEq.rfl, beq_self_eq_true, Int.reduceToNat]
  (refine hK _ ?_)
  clear hK K
  refine AWP.block ?_
  generalize hz1 : loopR (impl_IsName_b1 a0) (a0.length - 0) 0 () = z1 at hR
  refine AWP.range (impl_IsName_b1 a0) (fun i1 s1 => ⟨[(0, .str a0), (3, .int .i64 (i1 : Int))], []⟩) (fun i1 s1 => True) (a0.length) 0 () [] hz1 (by (omega)) (by (trivial)) (by (simp only [si, ea, gv, sv, hk, reduceCtorEq, reduceIte, Nat.reduceBEq, Nat.reduceAdd, Nat.reduceEqDiff, Nat.reduceLT, Nat.reduceLeDiff, Nat.reduceMul, Nat.reduceSub, BEq.rfl, beq_self_eq_true, Int.reduceToNat]; trivial)) ?_
  clear hz1
  intro i1 s1 hi1 hW1 hz1
  refine AWP.seq ?_
  refine AWP.seq ?_
  refine AWP.regS G_ok impl_IsName_DD hc (by kernel_rfl) (fun K hK => ?_); simp only [ea, gv, sv, D_impl_isDigit, D_impl_few, reduceCtorEq, reduceIte, Nat.reduceBEq, Nat.reduceAdd, Nat.reduceEqDiff, Nat.reduceLT, Nat.reduceLeDiff, Nat.reduceMul, Nat.reduceSub, BEq.rfl, beq_self_eq_true, Int.reduceToNat]
  (refine hK _ ?_)
  clear hK K
  refine AWP.cond rfl (fun hb => ?_) (fun hb => ?_)
  · have hlt1 : i1 < a0.length := by ((simp only [ob, ln, bdv, sv] at *; omega))
    rw [loopR_lt hlt1] at hz1; simp only [impl_IsName_b1] at hz1
    refine AWP.skip ?_
    refine AWP.seq ?_
    refine AWP.block ?_
    refine AWP.seq ?_
    refine AWP.regS G_ok impl_IsName_DD hc (by kernel_rfl) (fun K hK => ?_); simp only [ea, gv, sv, D_impl_isDigit, D_impl_few, reduceCtorEq, reduceIte, Nat.reduceBEq, Nat.reduceAdd, Nat.reduceEqDiff, Nat.reduceLT, Nat.reduceLeDiff, Nat.reduceMul, Nat.reduceSub, BEq.rfl, beq_self_eq_true, Int.reduceToNat]
    (refine ⟨by (omega), hK _ ?_⟩)
    clear hK K
    refine AWP.seq ?_
    refine AWP.regS G_ok impl_IsName_DD hc (by kernel_rfl) (fun K hK => ?_); simp only [ea, gv, sv, D_impl_isDigit, D_impl_few, reduceCtorEq, reduceIte, Nat.reduceBEq, Nat.reduceAdd, Nat.reduceEqDiff, Nat.reduceLT, Nat.reduceLeDiff, Nat.reduceMul, Nat.reduceSub, BEq.rfl, beq_self_eq_true, Int.reduceToNat]
    (refine ⟨by (omega), hK _ ?_⟩)
    clear hK K
    refine AWP.cond rfl (fun hb => ?_) (fun hb => ?_)
    · (simp only [hb, cond_true] at hz1)
      refine AWP.seq ?_
      refine AWP.regS G_ok impl_IsName_DD hc (by kernel_rfl) (fun K hK => ?_); simp only [ea, gv, sv, D_impl_isDigit, D_impl_few, reduceCtorEq, reduceIte, Nat.reduceBEq, Nat.reduceAdd, Nat.reduceEqDiff, Nat.reduceLT, Nat.reduceLeDiff, Nat.reduceMul, Nat.reduceSub, BEq.rfl, beq_self_eq_true, Int.reduceToNat]
      (refine hK _ ?_)
      clear hK K
      refine AWP.ret ?_
      subst hz1
      dsimp only at hR
      subst hR
      (simp only [en, si, ea, gv, sv, hk, reduceCtorEq, reduceIte, Nat.reduceBEq, Nat.reduceAdd, Nat.reduceEqDiff, Nat.reduceLT, Nat.reduceLeDiff, Nat.reduceMul, Nat.reduceSub, BEq.rfl, beq_self_eq_true, Int.reduceToNat]; done)
    · (simp only [hb, cond_false] at hz1)
      refine AWP.skip ?_
      refine AWP.regS G_ok impl_IsName_DD hc (by kernel_rfl) (fun K hK => ?_); simp only [ea, gv, sv, D_impl_isDigit, D_impl_few, reduceCtorEq, reduceIte, Nat.reduceBEq, Nat.reduceAdd, Nat.reduceEqDiff, Nat.reduceLT, Nat.reduceLeDiff, Nat.reduceMul, Nat.reduceSub, BEq.rfl, beq_self_eq_true, Int.reduceToNat]
      (refine hK _ ?_)
      clear hK K
      exact ⟨_, [], hlt1, by (trivial), hz1, by (simp only [si, ea, gv, sv, hk, reduceCtorEq, reduceIte, Nat.reduceBEq, Nat.reduceAdd, Nat.reduceEqDiff, Nat.reduceLT, Nat.reduceLeDiff, Nat.reduceMul, Nat.reduceSub, BEq.rfl, beq_self_eq_true, Int.reduceToNat]; (and_intros <;> first | trivial | (rw [IntKind.wrap_i64]; omega)))⟩
  · obtain rfl : i1 = a0.length := by ((simp only [ob, ln, bdv, sv] at *; omega))
    rw [loopR_ge (Nat.le_refl _)] at hz1; subst hz1; dsimp only at hR
    refine AWP.exit ?_; refine exitTo_here ?_
    refine AWP.seq ?_
    refine AWP.regS G_ok impl_IsName_DD hc (by kernel_rfl) (fun K hK => ?_); simp only [ea, gv, sv, D_impl_isDigit, D_impl_few, reduceCtorEq, reduceIte, Nat.reduceBEq, Nat.reduceAdd, Nat.reduceEqDiff, Nat.reduceLT, Nat.reduceLeDiff, Nat.reduceMul, Nat.reduceSub, BEq.rfl, beq_self_eq_true, Int.reduceToNat]
    (refine hK _ ?_)
    clear hK K
    refine AWP.ret ?_
    subst hR
    (simp only [en, si, ea, gv, sv, hk, reduceCtorEq, reduceIte, Nat.reduceBEq, Nat.reduceAdd, Nat.reduceEqDiff, Nat.reduceLT, Nat.reduceLeDiff, Nat.reduceMul, Nat.reduceSub, BEq.rfl, beq_self_eq_true, Int.reduceToNat]; done)
def D_impl_IsName : DF
  | [x0] => some (.bool (impl_IsName (rdS x0)), false, [wS x0])
  | _ => none
theorem D_impl_IsName_ok : OkD Try.prog 114 D_impl_IsName := by
  intro xs r z ob h ho
  unfold D_impl_IsName at h
  split at h
  · simp only [Option.some.injEq, Prod.mk.injEq] at h
    obtain ⟨rfl, rfl, rfl⟩ := h
    obtain ⟨h0, _⟩ := ho
    exact Den.sim (impl_IsName_den _ ) (simOL_cons (wS_sim h0).1 <| trivial) (noIdL_cons (wS_sim h0).2 <| rfl) rfl
  · cases h
end Go.Ab

namespace Go.Ab
open Go Go.Proofs
theorem impl_within_DD : DOk Try.prog (DD []) := DD_nil _
def impl_within (a0 : Int) (a1 : Int) (a2 : Int) : Bool :=
  (decide (a1 ≤ a0) && decide (a0 ≤ a2))
theorem impl_within_den (a0 : Int) (a1 : Int) (a2 : Int)  : Den Try.prog 69 [.int .i64 a0, .int .i64 a1, .int .i64 a2] (.bool (impl_within a0 a1 a2)) := by
  generalize hR : impl_within a0 a1 a2 = r
  unfold impl_within at hR
  refine den_intro G_ok Try.func69 (by kernel_rfl) rfl Try.ntmps69 (by rw [Try.results69]) (by simp) rfl ?_
  intro c hL hc hk
  clear hL
  simp only [pars, Nat.zero_add]
  refine AWP.seq ?_
  refine AWP.regS G_ok impl_within_DD hc (by kernel_rfl) (fun K hK => ?_); simp only [ea, gv, sv, reduceCtorEq, reduceIte, Nat.reduceBEq, Nat.reduceAdd, Nat.reduceEqDiff, Nat.reduceLT, Nat.reduceLeDiff, Nat.reduceMul, Nat.reduceSub, BEq.rfl, beq_self_eq_true, Int.reduceToNat]
  (refine hK _ ?_)
  clear hK K
  refine AWP.seq ?_
  refine AWP.regS G_ok impl_within_DD hc (by kernel_rfl) (fun K hK => ?_); simp only [ea, gv, sv, reduceCtorEq, reduceIte, Nat.reduceBEq, Nat.reduceAdd, Nat.reduceEqDiff, Nat.reduceLT, Nat.reduceLeDiff, Nat.reduceMul, Nat.reduceSub, BEq.rfl, beq_self_eq_true, Int.reduceToNat]
  (refine hK _ ?_)
  clear hK K
  refine AWP.ret ?_
  subst hR
  (simp only [en, si, ea, gv, sv, hk, reduceCtorEq, reduceIte, Nat.reduceBEq, Nat.reduceAdd, Nat.reduceEqDiff, Nat.reduceLT, Nat.reduceLeDiff, Nat.reduceMul, Nat.reduceSub, BEq.rfl, beq_self_eq_true, Int.reduceToNat]; done)
def D_impl_within : DF
  | [x0, x1, x2] => some (.bool (impl_within (rdI x0) (rdI x1) (rdI x2)), false, [wI .i64 x0, wI .i64 x1, wI .i64 x2])
  | _ => none
theorem D_impl_within_ok : OkD Try.prog 69 D_impl_within := by
  intro xs r z ob h ho
  unfold D_impl_within at h
  split at h
  · simp only [Option.some.injEq, Prod.mk.injEq] at h
    obtain ⟨rfl, rfl, rfl⟩ := h
    obtain ⟨h0, h1, h2, _⟩ := ho
    exact Den.sim (impl_within_den _ _ _ ) (simOL_cons (wI_sim h0).1 <| simOL_cons (wI_sim h1).1 <| simOL_cons (wI_sim h2).1 <| trivial) (noIdL_cons (wI_sim h0).2 <| noIdL_cons (wI_sim h1).2 <| noIdL_cons (wI_sim h2).2 <| rfl) rfl
  · cases h
end Go.Ab

namespace Go.Ab
open Go Go.Proofs
theorem impl_isSpare_DD : DOk Try.prog (DD [(114, dP D_impl_IsName), (69, dP D_impl_within)]) := DD_cons D_impl_IsName_ok.e <| DD_cons D_impl_within_ok.e <| DD_nil _
def impl_isSpare (a0 : Spare) : Bool :=
  (((impl_IsName a0.Name) && (impl_within a0.Most 0 10000)) && (impl_within a0.Least 0 a0.Most))
theorem impl_isSpare_den (a0 : Spare)  : Den Try.prog 66 [.agg (eSpare a0)] (.bool (impl_isSpare a0)) := by
  generalize hR : impl_isSpare a0 = r
  unfold impl_isSpare at hR
  refine den_intro G_ok Try.func66 (by kernel_rfl) rfl Try.ntmps66 (by rw [Try.results66]) (by simp) rfl ?_
  intro c hL hc hk
  obtain ⟨hL0, _⟩ := hL
  have hw0 : bwSpare a0 := Spare_lens a0 hL0
  clear hL0
  simp only [pars, Nat.zero_add]
  refine AWP.seq ?_
  refine AWP.regS G_ok impl_isSpare_DD hc (by kernel_rfl) (fun K hK => ?_); simp only [ea, gv, sv, D_impl_IsName, D_impl_within, reduceCtorEq, reduceIte, Nat.reduceBEq, Nat.reduceAdd, Nat.reduceEqDiff, Nat.reduceLT, Nat.reduceLeDiff, Nat.reduceMul, Nat.reduceSub, BEq.rfl, beq_self_eq_true, Int.reduceToNat]
  (refine hK _ ?_)
  clear hK K
  refine AWP.seq ?_
  refine AWP.regS G_ok impl_isSpare_DD hc (by kernel_rfl) (fun K hK => ?_); simp only [ea, gv, sv, D_impl_IsName, D_impl_within, reduceCtorEq, reduceIte, Nat.reduceBEq, Nat.reduceAdd, Nat.reduceEqDiff, Nat.reduceLT, Nat.reduceLeDiff, Nat.reduceMul, Nat.reduceSub, BEq.rfl, beq_self_eq_true, Int.reduceToNat]
  (refine hK _ ?_)
  clear hK K
  refine AWP.ret ?_
  subst hR
  (simp only [en, si, ea, gv, sv, hk, reduceCtorEq, reduceIte, Nat.reduceBEq, Nat.reduceAdd, Nat.reduceEqDiff, Nat.reduceLT, Nat.reduceLeDiff, Nat.reduceMul, Nat.reduceSub, BEq.rfl, beq_self_eq_true, Int.reduceToNat]; done)
def D_impl_isSpare : DF
  | [x0] => some (.bool (impl_isSpare (rdG dSpare x0)), false, [wG eSpare dSpare x0])
  | _ => none
theorem D_impl_isSpare_ok : OkD Try.prog 66 D_impl_isSpare := by
  intro xs r z ob h ho
  unfold D_impl_isSpare at h
  split at h
  · simp only [Option.some.injEq, Prod.mk.injEq] at h
    obtain ⟨rfl, rfl, rfl⟩ := h
    obtain ⟨h0, _⟩ := ho
    exact Den.sim (impl_isSpare_den _ ) (simOL_cons (wG_sim h0).1 <| trivial) (noIdL_cons (wG_sim h0).2 <| rfl) rfl
  · cases h
end Go.Ab

namespace Go.Ab
open Go Go.Proofs
theorem impl_ValidStore_1_DD : DOk Try.prog (DD [(69, dP D_impl_within)]) := DD_cons D_impl_within_ok.e <| DD_nil _
def impl_ValidStore_1 (a0 : Int) (a1 : Spare) : Bool :=
  (!(impl_within a0 0 a1.Most))
theorem impl_ValidStore_1_den (a0 : Int) (a1 : Spare)  : Den Try.prog 68 [.int .i64 a0, .ep (eSpare a1)] (.bool (impl_ValidStore_1 a0 a1)) := by
  generalize hR : impl_ValidStore_1 a0 a1 = r
  unfold impl_ValidStore_1 at hR
  refine den_intro G_ok Try.func68 (by kernel_rfl) rfl Try.ntmps68 (by rw [Try.results68]) (by simp) rfl ?_
  intro c hL hc hk
  obtain ⟨hL0, hL1, _⟩ := hL
  have hw0 : bwSpare a1 := Spare_lens a1 hL1
  clear hL0 hL1
  simp only [pars, Nat.zero_add]
  refine AWP.seq ?_
  refine AWP.regS G_ok impl_ValidStore_1_DD hc (by kernel_rfl) (fun K hK => ?_); simp only [ea, gv, sv, D_impl_within, reduceCtorEq, reduceIte, Nat.reduceBEq, Nat.reduceAdd, Nat.reduceEqDiff, Nat.reduceLT, Nat.reduceLeDiff, Nat.reduceMul, Nat.reduceSub, BEq.rfl, beq_self_eq_true, Int.reduceToNat]
  (refine hK _ ?_)
  clear hK K
  refine AWP.seq ?_
  refine AWP.regS G_ok impl_ValidStore_1_DD hc (by kernel_rfl) (fun K hK => ?_); simp only [ea, gv, sv, D_impl_within, reduceCtorEq, reduceIte, Nat.reduceBEq, Nat.reduceAdd, Nat.reduceEqDiff, Nat.reduceLT, Nat.reduceLeDiff, Nat.reduceMul, Nat.reduceSub, BEq.rfl, beq_self_eq_true, Int.reduceToNat]
  (refine hK _ ?_)
  clear hK K
  refine AWP.ret ?_
  subst hR
  (simp only [en, si, ea, gv, sv, hk, reduceCtorEq, reduceIte, Nat.reduceBEq, Nat.reduceAdd, Nat.reduceEqDiff, Nat.reduceLT, Nat.reduceLeDiff, Nat.reduceMul, Nat.reduceSub, BEq.rfl, beq_self_eq_true, Int.reduceToNat]; done)
def D_impl_ValidStore_1 : DF
  | [x0, x1] => some (.bool (impl_ValidStore_1 (rdI x0) (rdP dSpare x1)), false, [wI .i64 x0, wP eSpare dSpare x1])
  | _ => none
theorem D_impl_ValidStore_1_ok : OkD Try.prog 68 D_impl_ValidStore_1 := by
  intro xs r z ob h ho
  unfold D_impl_ValidStore_1 at h
  split at h
  · simp only [Option.some.injEq, Prod.mk.injEq] at h
    obtain ⟨rfl, rfl, rfl⟩ := h
    obtain ⟨h0, h1, _⟩ := ho
    exact Den.sim (impl_ValidStore_1_den _ _ ) (simOL_cons (wI_sim h0).1 <| simOL_cons (wP_sim h1).1 <| trivial) (noIdL_cons (wI_sim h0).2 <| noIdL_cons (wP_sim h1).2 <| rfl) rfl
  · cases h
end Go.Ab

namespace Go.Ab
open Go Go.Proofs
theorem slices_IndexFunc_int64__impl_ValidStore_1_DD : DOk Try.prog (DD [(68, dP D_impl_ValidStore_1)]) := DD_cons D_impl_ValidStore_1_ok.e <| DD_nil _
def slices_IndexFunc_int64__impl_ValidStore_1_b1 (a0 : (List Int)) (a1 : Spare) (i1 : Nat) (s1 : Unit) : Except (Int) (Unit) :=
  (bif (impl_ValidStore_1 (a0.getD i1 default) a1) then .error (i1 : Int) else .ok ())
def slices_IndexFunc_int64__impl_ValidStore_1 (a0 : (List Int)) (a1 : Spare) : Int :=
  (match loopR (slices_IndexFunc_int64__impl_ValidStore_1_b1 a0 a1) (a0.length - 0) 0 () with | .error e => e | .ok s1 => (-1))
theorem slices_IndexFunc_int64__impl_ValidStore_1_den (a0 : (List Int)) (a1 : Spare)  : Den Try.prog 115 [encL 1 eIi64 a0, .fn 68 0 [.ep (eSpare a1)]] (.int .i64 (slices_IndexFunc_int64__impl_ValidStore_1 a0 a1)) := by
  generalize hR : slices_IndexFunc_int64__impl_ValidStore_1 a0 a1 = r
  unfold slices_IndexFunc_int64__impl_ValidStore_1 at hR
  refine den_intro G_ok Try.func115 (by kernel_rfl) rfl Try.ntmps115 (by rw [Try.results115]) (by simp) rfl ?_
  intro c hL hc hk
  obtain ⟨hL0, hL1, _⟩ := hL
  have hw0 : a0.length < 9223372036854775808 := Nat.lt_succ_of_le (lens_encL hL0).1
  have hw1 : bwSpare a1 := Spare_lens a1 hL1.1
  clear hL0 hL1
  simp only [pars, Nat.zero_add]
  refine AWP.seq ?_
  refine AWP.regS G_ok slices_IndexFunc_int64__impl_ValidStore_1_DD hc (by kernel_rfl) (fun K hK => ?_); simp only [ea, gv, sv, D_impl_ValidStore_1, reduceCtorEq, reduceIte, Nat.reduceBEq, Nat.reduceAdd, Nat.reduceEqDiff, Nat.reduceLT, Nat.reduceLeDiff, Nat.reduceMul, Nat.reduceSub, BEq.rfl, beq_self_eq_true, Int.reduceToNat]
  (refine hK _ ?_)
  clear hK K
  refine AWP.seq ?_
  refine AWP.seq ?_
  refine AWP.regS G_ok slices_IndexFunc_int64__impl_ValidStore_1_DD hc (by kernel_rfl) (fun K hK => ?_); simp only [ea, gv, sv, D_impl_ValidStore_1, reduceCtorEq, reduceIte, Nat.reduceBEq, Nat.reduceAdd, Nat.reduceEqDiff, Nat.reduceLT, Nat.reduceLeDiff, Nat.reduceMul, Nat.reduceSub, BEq.rfl, beq_self_eq_true, Int.reduceToNat]
  (refine hK _ ?_)
  clear hK K
  refine AWP.block ?_
  generalize hz1 : loopR (slices_IndexFunc_int64__impl_ValidStore_1_b1 a0 a1) (a0.length - 0) 0 () = z1 at hR
  refine AWP.range (slices_IndexFunc_int64__impl_ValidStore_1_b1 a0 a1) (fun i1 s1 => ⟨[(0, encL 1 eIi64 a0), (1, .fn 68 0 [.ep (eSpare a1)]), (7, .int .i64 (a0.length : Int)), (8, .int .i64 (i1 : Int))], []⟩) (fun i1 s1 => True) (a0.length) 0 () [] hz1 (by (omega)) (by (trivial)) (by (simp only [si, ea, gv, sv, hk, reduceCtorEq, reduceIte, Nat.reduceBEq, Nat.reduceAdd, Nat.reduceEqDiff, Nat.reduceLT, Nat.reduceLeDiff, Nat.reduceMul, Nat.reduceSub, BEq.rfl, beq_self_eq_true, Int.reduceToNat]; trivial)) ?_
  clear hz1
  intro i1 s1 hi1 hW1 hz1
  refine AWP.seq ?_
  refine AWP.regS G_ok slices_IndexFunc_int64__impl_ValidStore_1_DD hc (by kernel_rfl) (fun K hK => ?_); simp only [ea, gv, sv, D_impl_ValidStore_1, reduceCtorEq, reduceIte, Nat.reduceBEq, Nat.reduceAdd, Nat.reduceEqDiff, Nat.reduceLT, Nat.reduceLeDiff, Nat.reduceMul, Nat.reduceSub, BEq.rfl, beq_self_eq_true, Int.reduceToNat]
  (refine hK _ ?_)
  clear hK K
  refine AWP.seq ?_
  refine AWP.cond rfl (fun hb => ?_) (fun hb => ?_)
  · have hlt1 : i1 < a0.length := by ((simp only [ob, ln, bdv, sv] at *; omega))
    rw [loopR_lt hlt1] at hz1; simp only [slices_IndexFunc_int64__impl_ValidStore_1_b1] at hz1
    refine AWP.skip ?_
    refine AWP.seq ?_
    refine AWP.block ?_
    refine AWP.seq ?_
    refine AWP.regS G_ok slices_IndexFunc_int64__impl_ValidStore_1_DD hc (by kernel_rfl) (fun K hK => ?_); simp only [ea, gv, sv, D_impl_ValidStore_1, reduceCtorEq, reduceIte, Nat.reduceBEq, Nat.reduceAdd, Nat.reduceEqDiff, Nat.reduceLT, Nat.reduceLeDiff, Nat.reduceMul, Nat.reduceSub, BEq.rfl, beq_self_eq_true, Int.reduceToNat]
    (refine hK _ ?_)
    clear hK K
    refine AWP.seq ?_
    refine AWP.regS G_ok slices_IndexFunc_int64__impl_ValidStore_1_DD hc (by kernel_rfl) (fun K hK => ?_); simp only [ea, gv, sv, D_impl_ValidStore_1, reduceCtorEq, reduceIte, Nat.reduceBEq, Nat.reduceAdd, Nat.reduceEqDiff, Nat.reduceLT, Nat.reduceLeDiff, Nat.reduceMul, Nat.reduceSub, BEq.rfl, beq_self_eq_true, Int.reduceToNat]
    (refine ⟨by (omega), hK _ ?_⟩)
    clear hK K
    refine AWP.cond rfl (fun hb => ?_) (fun hb => ?_)
    · (simp only [hb, cond_true] at hz1)
      refine AWP.seq ?_
      refine AWP.regS G_ok slices_IndexFunc_int64__impl_ValidStore_1_DD hc (by kernel_rfl) (fun K hK => ?_); simp only [ea, gv, sv, D_impl_ValidStore_1, reduceCtorEq, reduceIte, Nat.reduceBEq, Nat.reduceAdd, Nat.reduceEqDiff, Nat.reduceLT, Nat.reduceLeDiff, Nat.reduceMul, Nat.reduceSub, BEq.rfl, beq_self_eq_true, Int.reduceToNat]
      (refine hK _ ?_)
      clear hK K
      refine AWP.ret ?_
      subst hz1
      dsimp only at hR
      subst hR
      (simp only [en, si, ea, gv, sv, hk, reduceCtorEq, reduceIte, Nat.reduceBEq, Nat.reduceAdd, Nat.reduceEqDiff, Nat.reduceLT, Nat.reduceLeDiff, Nat.reduceMul, Nat.reduceSub, BEq.rfl, beq_self_eq_true, Int.reduceToNat]; done)
    · (simp only [hb, cond_false] at hz1)
      refine AWP.skip ?_
      refine AWP.regS G_ok slices_IndexFunc_int64__impl_ValidStore_1_DD hc (by kernel_rfl) (fun K hK => ?_); simp only [ea, gv, sv, D_impl_ValidStore_1, reduceCtorEq, reduceIte, Nat.reduceBEq, Nat.reduceAdd, Nat.reduceEqDiff, Nat.reduceLT, Nat.reduceLeDiff, Nat.reduceMul, Nat.reduceSub, BEq.rfl, beq_self_eq_true, Int.reduceToNat]
      (refine hK _ ?_)
      clear hK K
      exact ⟨_, [], hlt1, by (trivial), hz1, by (simp only [si, ea, gv, sv, hk, reduceCtorEq, reduceIte, Nat.reduceBEq, Nat.reduceAdd, Nat.reduceEqDiff, Nat.reduceLT, Nat.reduceLeDiff, Nat.reduceMul, Nat.reduceSub, BEq.rfl, beq_self_eq_true, Int.reduceToNat]; (and_intros <;> first | trivial | (rw [IntKind.wrap_i64]; omega)))⟩
  · obtain rfl : i1 = a0.length := by ((simp only [ob, ln, bdv, sv] at *; omega))
    rw [loopR_ge (Nat.le_refl _)] at hz1; subst hz1; dsimp only at hR
    refine AWP.exit ?_; refine exitTo_here ?_
    refine AWP.seq ?_
    refine AWP.regS G_ok slices_IndexFunc_int64__impl_ValidStore_1_DD hc (by kernel_rfl) (fun K hK => ?_); simp only [ea, gv, sv, D_impl_ValidStore_1, reduceCtorEq, reduceIte, Nat.reduceBEq, Nat.reduceAdd, Nat.reduceEqDiff, Nat.reduceLT, Nat.reduceLeDiff, Nat.reduceMul, Nat.reduceSub, BEq.rfl, beq_self_eq_true, Int.reduceToNat]
    (refine hK _ ?_)
    clear hK K
    refine AWP.ret ?_
    subst hR
    (simp only [en, si, ea, gv, sv, hk, reduceCtorEq, reduceIte, Nat.reduceBEq, Nat.reduceAdd, Nat.reduceEqDiff, Nat.reduceLT, Nat.reduceLeDiff, Nat.reduceMul, Nat.reduceSub, BEq.rfl, beq_self_eq_true, Int.reduceToNat]; done)
def D_slices_IndexFunc_int64__impl_ValidStore_1 : DF
  | [x0, (.fn f68_2 kf68_2 [y1])] => some (.int .i64 (slices_IndexFunc_int64__impl_ValidStore_1 (rdL dIi64 x0) (rdP dSpare y1)), false, [wL 1 eIi64 dIi64 x0, y1 = .ep (eSpare (rdP dSpare y1)), f68_2 = 68, kf68_2 = 0])
  | _ => none
theorem D_slices_IndexFunc_int64__impl_ValidStore_1_ok : OkD Try.prog 115 D_slices_IndexFunc_int64__impl_ValidStore_1 := by
  intro xs r z ob h ho
  unfold D_slices_IndexFunc_int64__impl_ValidStore_1 at h
  split at h
  · simp only [Option.some.injEq, Prod.mk.injEq] at h
    obtain ⟨rfl, rfl, rfl⟩ := h
    obtain ⟨h0, qy1, qf68_2, qkf68_2, _⟩ := ho
    exact Den.sim (slices_IndexFunc_int64__impl_ValidStore_1_den _ _ ) (simOL_cons (wL_sim h0).1 <| simOL_cons (by subst qf68_2 qkf68_2; rw [← qy1]; exact simO_refl _) <| trivial) (noIdL_cons (wL_sim h0).2 <| noIdL_cons (by rw [qy1]; rfl) <| rfl) rfl
  · cases h
end Go.Ab

namespace Go.Ab
open Go Go.Proofs
theorem slices_ContainsFunc_int64__impl_ValidStore_1_DD : DOk Try.prog (DD [(115, dP D_slices_IndexFunc_int64__impl_ValidStore_1)]) := DD_cons D_slices_IndexFunc_int64__impl_ValidStore_1_ok.e <| DD_nil _
def slices_ContainsFunc_int64__impl_ValidStore_1 (a0 : (List Int)) (a1 : Spare) : Bool :=
  decide (0 ≤ (slices_IndexFunc_int64__impl_ValidStore_1 a0 a1))
theorem slices_ContainsFunc_int64__impl_ValidStore_1_den (a0 : (List Int)) (a1 : Spare)  : Den Try.prog 67 [encL 1 eIi64 a0, .fn 68 0 [.ep (eSpare a1)]] (.bool (slices_ContainsFunc_int64__impl_ValidStore_1 a0 a1)) := by
  generalize hR : slices_ContainsFunc_int64__impl_ValidStore_1 a0 a1 = r
  unfold slices_ContainsFunc_int64__impl_ValidStore_1 at hR
  refine den_intro G_ok Try.func67 (by kernel_rfl) rfl Try.ntmps67 (by rw [Try.results67]) (by simp) rfl ?_
  intro c hL hc hk
  obtain ⟨hL0, hL1, _⟩ := hL
  have hw0 : a0.length < 9223372036854775808 := Nat.lt_succ_of_le (lens_encL hL0).1
  have hw1 : bwSpare a1 := Spare_lens a1 hL1.1
  clear hL0 hL1
  simp only [pars, Nat.zero_add]
  refine AWP.seq ?_
  refine AWP.regS G_ok slices_ContainsFunc_int64__impl_ValidStore_1_DD hc (by kernel_rfl) (fun K hK => ?_); simp only [ea, gv, sv, D_slices_IndexFunc_int64__impl_ValidStore_1, reduceCtorEq, reduceIte, Nat.reduceBEq, Nat.reduceAdd, Nat.reduceEqDiff, Nat.reduceLT, Nat.reduceLeDiff, Nat.reduceMul, Nat.reduceSub, BEq.rfl, beq_self_eq_true, Int.reduceToNat]
  (refine hK _ ?_)
  clear hK K
  refine AWP.seq ?_
  refine AWP.regS G_ok slices_ContainsFunc_int64__impl_ValidStore_1_DD hc (by kernel_rfl) (fun K hK => ?_); simp only [ea, gv, sv, D_slices_IndexFunc_int64__impl_ValidStore_1, reduceCtorEq, reduceIte, Nat.reduceBEq, Nat.reduceAdd, Nat.reduceEqDiff, Nat.reduceLT, Nat.reduceLeDiff, Nat.reduceMul, Nat.reduceSub, BEq.rfl, beq_self_eq_true, Int.reduceToNat]
  (refine hK _ ?_)
  clear hK K
  refine AWP.ret ?_
  subst hR
  (simp only [en, si, ea, gv, sv, hk, reduceCtorEq, reduceIte, Nat.reduceBEq, Nat.reduceAdd, Nat.reduceEqDiff, Nat.reduceLT, Nat.reduceLeDiff, Nat.reduceMul, Nat.reduceSub, BEq.rfl, beq_self_eq_true, Int.reduceToNat]; done)
def D_slices_ContainsFunc_int64__impl_ValidStore_1 : DF
  | [x0, (.fn f68_2 kf68_2 [y1])] => some (.bool (slices_ContainsFunc_int64__impl_ValidStore_1 (rdL dIi64 x0) (rdP dSpare y1)), false, [wL 1 eIi64 dIi64 x0, y1 = .ep (eSpare (rdP dSpare y1)), f68_2 = 68, kf68_2 = 0])
  | _ => none
theorem D_slices_ContainsFunc_int64__impl_ValidStore_1_ok : OkD Try.prog 67 D_slices_ContainsFunc_int64__impl_ValidStore_1 := by
  intro xs r z ob h ho
  unfold D_slices_ContainsFunc_int64__impl_ValidStore_1 at h
  split at h
  · simp only [Option.some.injEq, Prod.mk.injEq] at h
    obtain ⟨rfl, rfl, rfl⟩ := h
    obtain ⟨h0, qy1, qf68_2, qkf68_2, _⟩ := ho
    exact Den.sim (slices_ContainsFunc_int64__impl_ValidStore_1_den _ _ ) (simOL_cons (wL_sim h0).1 <| simOL_cons (by subst qf68_2 qkf68_2; rw [← qy1]; exact simO_refl _) <| trivial) (noIdL_cons (wL_sim h0).2 <| noIdL_cons (by rw [qy1]; rfl) <| rfl) rfl
  · cases h
end Go.Ab

namespace Go.Ab
open Go Go.Proofs
theorem impl_isDay_DD : DOk Try.prog (DD [(69, dP D_impl_within)]) := DD_cons D_impl_within_ok.e <| DD_nil _
def impl_isDay (a0 : Int) : Bool :=
  (impl_within a0 0 99999)
theorem impl_isDay_den (a0 : Int)  : Den Try.prog 102 [.int .i64 a0] (.bool (impl_isDay a0)) := by
  generalize hR : impl_isDay a0 = r
  unfold impl_isDay at hR
  refine den_intro G_ok Try.func102 (by kernel_rfl) rfl Try.ntmps102 (by rw [Try.results102]) (by simp) rfl ?_
  intro c hL hc hk
  clear hL
  simp only [pars, Nat.zero_add]
  refine AWP.seq ?_
  refine AWP.regS G_ok impl_isDay_DD hc (by kernel_rfl) (fun K hK => ?_); simp only [ea, gv, sv, D_impl_within, reduceCtorEq, reduceIte, Nat.reduceBEq, Nat.reduceAdd, Nat.reduceEqDiff, Nat.reduceLT, Nat.reduceLeDiff, Nat.reduceMul, Nat.reduceSub, BEq.rfl, beq_self_eq_true, Int.reduceToNat]
  (refine hK _ ?_)
  clear hK K
  refine AWP.seq ?_
  refine AWP.regS G_ok impl_isDay_DD hc (by kernel_rfl) (fun K hK => ?_); simp only [ea, gv, sv, D_impl_within, reduceCtorEq, reduceIte, Nat.reduceBEq, Nat.reduceAdd, Nat.reduceEqDiff, Nat.reduceLT, Nat.reduceLeDiff, Nat.reduceMul, Nat.reduceSub, BEq.rfl, beq_self_eq_true, Int.reduceToNat]
  (refine hK _ ?_)
  clear hK K
  refine AWP.ret ?_
  subst hR
  (simp only [en, si, ea, gv, sv, hk, reduceCtorEq, reduceIte, Nat.reduceBEq, Nat.reduceAdd, Nat.reduceEqDiff, Nat.reduceLT, Nat.reduceLeDiff, Nat.reduceMul, Nat.reduceSub, BEq.rfl, beq_self_eq_true, Int.reduceToNat]; done)
def D_impl_isDay : DF
  | [x0] => some (.bool (impl_isDay (rdI x0)), false, [wI .i64 x0])
  | _ => none
theorem D_impl_isDay_ok : OkD Try.prog 102 D_impl_isDay := by
  intro xs r z ob h ho
  unfold D_impl_isDay at h
  split at h
  · simp only [Option.some.injEq, Prod.mk.injEq] at h
    obtain ⟨rfl, rfl, rfl⟩ := h
    obtain ⟨h0, _⟩ := ho
    exact Den.sim (impl_isDay_den _ ) (simOL_cons (wI_sim h0).1 <| trivial) (noIdL_cons (wI_sim h0).2 <| rfl) rfl
  · cases h
end Go.Ab

namespace Go.Ab
open Go Go.Proofs
theorem impl_isEntry_DD : DOk Try.prog (DD [(102, dP D_impl_isDay), (114, dP D_impl_IsName), (69, dP D_impl_within)]) := DD_cons D_impl_isDay_ok.e <| DD_cons D_impl_IsName_ok.e <| DD_cons D_impl_within_ok.e <| DD_nil _
def impl_isEntry (a0 : Entry) : Bool :=
  ((((impl_isDay a0.Day) && (impl_IsName a0.Item)) && (impl_within a0.Amount (-1000) 1000)) && (a0.Amount != 0))
theorem impl_isEntry_den (a0 : Entry)  : Den Try.prog 71 [.agg (eEntry a0)] (.bool (impl_isEntry a0)) := by
  generalize hR : impl_isEntry a0 = r
  unfold impl_isEntry at hR
  refine den_intro G_ok Try.func71 (by kernel_rfl) rfl Try.ntmps71 (by rw [Try.results71]) (by simp) rfl ?_
  intro c hL hc hk
  obtain ⟨hL0, _⟩ := hL
  have hw0 : bwEntry a0 := Entry_lens a0 hL0
  clear hL0
  simp only [pars, Nat.zero_add]
  refine AWP.seq ?_
  refine AWP.regS G_ok impl_isEntry_DD hc (by kernel_rfl) (fun K hK => ?_); simp only [ea, gv, sv, D_impl_isDay, D_impl_IsName, D_impl_within, reduceCtorEq, reduceIte, Nat.reduceBEq, Nat.reduceAdd, Nat.reduceEqDiff, Nat.reduceLT, Nat.reduceLeDiff, Nat.reduceMul, Nat.reduceSub, BEq.rfl, beq_self_eq_true, Int.reduceToNat]
  (refine hK _ ?_)
  clear hK K
  refine AWP.seq ?_
  refine AWP.regS G_ok impl_isEntry_DD hc (by kernel_rfl) (fun K hK => ?_); simp only [ea, gv, sv, D_impl_isDay, D_impl_IsName, D_impl_within, reduceCtorEq, reduceIte, Nat.reduceBEq, Nat.reduceAdd, Nat.reduceEqDiff, Nat.reduceLT, Nat.reduceLeDiff, Nat.reduceMul, Nat.reduceSub, BEq.rfl, beq_self_eq_true, Int.reduceToNat]
  (refine hK _ ?_)
  clear hK K
  refine AWP.ret ?_
  subst hR
  (simp only [en, si, ea, gv, sv, hk, reduceCtorEq, reduceIte, Nat.reduceBEq, Nat.reduceAdd, Nat.reduceEqDiff, Nat.reduceLT, Nat.reduceLeDiff, Nat.reduceMul, Nat.reduceSub, BEq.rfl, beq_self_eq_true, Int.reduceToNat]; done)
def D_impl_isEntry : DF
  | [x0] => some (.bool (impl_isEntry (rdG dEntry x0)), false, [wG eEntry dEntry x0])
  | _ => none
theorem D_impl_isEntry_ok : OkD Try.prog 71 D_impl_isEntry := by
  intro xs r z ob h ho
  unfold D_impl_isEntry at h
  split at h
  · simp only [Option.some.injEq, Prod.mk.injEq] at h
    obtain ⟨rfl, rfl, rfl⟩ := h
    obtain ⟨h0, _⟩ := ho
    exact Den.sim (impl_isEntry_den _ ) (simOL_cons (wG_sim h0).1 <| trivial) (noIdL_cons (wG_sim h0).2 <| rfl) rfl
  · cases h
end Go.Ab

namespace Go.Ab
open Go Go.Proofs
theorem impl_Store_sums_len (a : Store) (k : List UInt8) : (impl_Store_sums a k).1.length = (impl_Store_sums a k).2.length ∧ (impl_Store_sums a k).1.length ≤ a.Entries.length := by
  unfold impl_Store_sums
  obtain ⟨t, h1, h2, h3⟩ := loopR_total (b := impl_Store_sums_b1 a k) (fun i s => s.2.1.length = s.2.2.length ∧ s.2.1.length ≤ i) (k := a.Entries.length - 0) (i := 0) (s := (0, [], [])) (by simp) (by
    intro j u _ _ ⟨h, h'⟩
    simp only [impl_Store_sums_b1]
    cases (a.Entries.getD j default).Item == k with
    | true => exact ⟨_, rfl, by simpa using h, by simpa using h'⟩
    | false => exact ⟨_, rfl, h, by simp only; omega⟩)
  rw [h1]
  exact ⟨h2, by simpa using h3⟩
end Go.Ab

namespace Go.Ab
open Go Go.Proofs
theorem impl_ValidStore_DD : DOk Try.prog (DD [(65, dP D_impl_Store_sums), (66, dP D_impl_isSpare), (67, dP D_slices_ContainsFunc_int64__impl_ValidStore_1), (70, dP D_impl_Store_spareOf), (71, dP D_impl_isEntry), (72, dP D_impl_few)]) := DD_cons D_impl_Store_sums_ok.e <| DD_cons D_impl_isSpare_ok.e <| DD_cons D_slices_ContainsFunc_int64__impl_ValidStore_1_ok.e <| DD_cons D_impl_Store_spareOf_ok.e <| DD_cons D_impl_isEntry_ok.e <| DD_cons D_impl_few_ok.e <| DD_nil _
def impl_ValidStore_b1 (a0 : Store) (i1 : Nat) (s1 : Unit) : Except (Bool) (Unit) :=
  (bif (((!(impl_isSpare (a0.Spares.getD i1 default))) || (decide (0 < (i1 : Int)) && !(Op.bytesLess ((a0.Spares.getD ((IntKind.wrap .i64 ((i1 : Int) - 1)).toNat) default).Name) ((a0.Spares.getD i1 default).Name)))) || (slices_ContainsFunc_int64__impl_ValidStore_1 ((impl_Store_sums a0 ((a0.Spares.getD i1 default).Name)).2) (a0.Spares.getD i1 default))) then .error false else .ok ())
def impl_ValidStore_b2 (a0 : Store) (s1 : Unit) (i2 : Nat) (s2 : Unit) : Except (Bool) (Unit) :=
  (bif (((!(impl_isEntry (a0.Entries.getD i2 default))) || (!((impl_Store_spareOf a0 ((a0.Entries.getD i2 default).Item)).2))) || (decide (0 < (i2 : Int)) && decide (((a0.Entries.getD i2 default).Day) < ((a0.Entries.getD ((IntKind.wrap .i64 ((i2 : Int) - 1)).toNat) default).Day)))) then .error false else .ok ())
def impl_ValidStore (a0 : Store) : Bool :=
  (match loopR (impl_ValidStore_b1 a0) (a0.Spares.length - 0) 0 () with | .error e => e | .ok s1 => (match loopR (impl_ValidStore_b2 a0 s1) (a0.Entries.length - 0) 0 () with | .error e => e | .ok s2 => ((impl_few (a0.Spares.length : Int) 16) && (impl_few (a0.Entries.length : Int) 48))))
theorem impl_ValidStore_den (a0 : Store) (hb0 : bdStore a0) : Den Try.prog 18 [.agg (eStore a0)] (.bool (impl_ValidStore a0)) := by
  generalize hR : impl_ValidStore a0 = r
  unfold impl_ValidStore at hR
  refine den_intro G_ok Try.func18 (by kernel_rfl) rfl Try.ntmps18 (by rw [Try.results18]) (by simp) rfl ?_
  intro c hL hc hk
  obtain ⟨hL0, _⟩ := hL
  have hw0 : bwStore a0 := Store_lens a0 hL0
  clear hL0
  simp only [pars, Nat.zero_add]
  refine AWP.seq ?_
  refine AWP.regS G_ok impl_ValidStore_DD hc (by kernel_rfl) (fun K hK => ?_); simp only [ea, gv, sv, D_impl_Store_sums, D_impl_isSpare, D_slices_ContainsFunc_int64__impl_ValidStore_1, D_impl_Store_spareOf, D_impl_isEntry, D_impl_few, reduceCtorEq, reduceIte, Nat.reduceBEq, Nat.reduceAdd, Nat.reduceEqDiff, Nat.reduceLT, Nat.reduceLeDiff, Nat.reduceMul, Nat.reduceSub, BEq.rfl, beq_self_eq_true, Int.reduceToNat]
  (refine hK _ ?_)
  clear hK K
  refine AWP.seq ?_
  refine AWP.seq ?_
  refine AWP.regS G_ok impl_ValidStore_DD hc (by kernel_rfl) (fun K hK => ?_); simp only [ea, gv, sv, D_impl_Store_sums, D_impl_isSpare, D_slices_ContainsFunc_int64__impl_ValidStore_1, D_impl_Store_spareOf, D_impl_isEntry, D_impl_few, reduceCtorEq, reduceIte, Nat.reduceBEq, Nat.reduceAdd, Nat.reduceEqDiff, Nat.reduceLT, Nat.reduceLeDiff, Nat.reduceMul, Nat.reduceSub, BEq.rfl, beq_self_eq_true, Int.reduceToNat]
  (refine hK _ ?_)
  clear hK K
  refine AWP.block ?_
  refine AWP.lensS 12 rfl (fun hLn1 => ?_)
  generalize hz1 : loopR (impl_ValidStore_b1 a0) (a0.Spares.length - 0) 0 () = z1 at hR
  refine AWP.range (impl_ValidStore_b1 a0) (fun i1 s1 => ⟨[(1, .ptr 0 0), (12, encL 3 eSpare a0.Spares), (13, .int .i64 (a0.Spares.length : Int)), (14, .int .i64 (i1 : Int))], [.box [encL 3 eSpare a0.Spares, encL 3 eEntry a0.Entries]]⟩) (fun i1 s1 => True) (a0.Spares.length) 0 () [0] hz1 (by (omega)) (by (trivial)) (by (simp only [si, ea, gv, sv, hk, reduceCtorEq, reduceIte, Nat.reduceBEq, Nat.reduceAdd, Nat.reduceEqDiff, Nat.reduceLT, Nat.reduceLeDiff, Nat.reduceMul, Nat.reduceSub, BEq.rfl, beq_self_eq_true, Int.reduceToNat]; trivial)) ?_
  clear hz1
  intro i1 s1 hi1 hW1 hz1
  refine AWP.seq ?_
  refine AWP.regS G_ok impl_ValidStore_DD hc (by kernel_rfl) (fun K hK => ?_); simp only [ea, gv, sv, D_impl_Store_sums, D_impl_isSpare, D_slices_ContainsFunc_int64__impl_ValidStore_1, D_impl_Store_spareOf, D_impl_isEntry, D_impl_few, reduceCtorEq, reduceIte, Nat.reduceBEq, Nat.reduceAdd, Nat.reduceEqDiff, Nat.reduceLT, Nat.reduceLeDiff, Nat.reduceMul, Nat.reduceSub, BEq.rfl, beq_self_eq_true, Int.reduceToNat]
  (refine hK _ ?_)
  clear hK K
  refine AWP.seq ?_
  refine AWP.cond rfl (fun hb => ?_) (fun hb => ?_)
  · have hlt1 : i1 < a0.Spares.length := by ((simp only [ob, ln, bdv, sv] at *; omega))
    rw [loopR_lt hlt1] at hz1; simp only [impl_ValidStore_b1] at hz1
    refine AWP.skip ?_
    refine AWP.seq ?_
    refine AWP.block ?_
    refine AWP.seq ?_
    refine AWP.regS G_ok impl_ValidStore_DD hc (by kernel_rfl) (fun K hK => ?_); simp only [ea, gv, sv, D_impl_Store_sums, D_impl_isSpare, D_slices_ContainsFunc_int64__impl_ValidStore_1, D_impl_Store_spareOf, D_impl_isEntry, D_impl_few, reduceCtorEq, reduceIte, Nat.reduceBEq, Nat.reduceAdd, Nat.reduceEqDiff, Nat.reduceLT, Nat.reduceLeDiff, Nat.reduceMul, Nat.reduceSub, BEq.rfl, beq_self_eq_true, Int.reduceToNat]
    (refine ⟨by (omega), hK _ ?_⟩)
    clear hK K
    refine AWP.seq ?_
    refine AWP.regS G_ok impl_ValidStore_DD hc (by kernel_rfl) (fun K hK => ?_); simp only [ea, gv, sv, D_impl_Store_sums, D_impl_isSpare, D_slices_ContainsFunc_int64__impl_ValidStore_1, D_impl_Store_spareOf, D_impl_isEntry, D_impl_few, reduceCtorEq, reduceIte, Nat.reduceBEq, Nat.reduceAdd, Nat.reduceEqDiff, Nat.reduceLT, Nat.reduceLeDiff, Nat.reduceMul, Nat.reduceSub, BEq.rfl, beq_self_eq_true, Int.reduceToNat]
    (refine ⟨by (((try clear hK K); (repeat' first | apply And.intro | intro _) <;> (simp only [ob, ln, bdv, sv] at *; first | omega | (simp_all; done)))), hK _ ?_⟩)
    clear hK K
    refine AWP.seq ?_
    refine AWP.regD mixed G_ok impl_ValidStore_DD hc 24 (by kernel_rfl) (by kernel_rfl) (fun K hK => ?_); simp only [ea, gv, sv, D_impl_Store_sums, D_impl_isSpare, D_slices_ContainsFunc_int64__impl_ValidStore_1, D_impl_Store_spareOf, D_impl_isEntry, D_impl_few, reduceCtorEq, reduceIte, Nat.reduceBEq, Nat.reduceAdd, Nat.reduceEqDiff, Nat.reduceLT, Nat.reduceLeDiff, Nat.reduceMul, Nat.reduceSub, BEq.rfl, beq_self_eq_true, Int.reduceToNat]
    (refine ⟨by (((try clear hK K); (repeat' first | apply And.intro | intro _) <;> first | omega | (simp only [ob, ln, bdv, sv] at *; omega))), hK _ ?_⟩)
    clear hK K
    refine AWP.cond rfl (fun hb => ?_) (fun hb => ?_)
    · (simp only [hb, cond_true] at hz1)
      refine AWP.seq ?_
      refine AWP.regS G_ok impl_ValidStore_DD hc (by kernel_rfl) (fun K hK => ?_); simp only [ea, gv, sv, D_impl_Store_sums, D_impl_isSpare, D_slices_ContainsFunc_int64__impl_ValidStore_1, D_impl_Store_spareOf, D_impl_isEntry, D_impl_few, reduceCtorEq, reduceIte, Nat.reduceBEq, Nat.reduceAdd, Nat.reduceEqDiff, Nat.reduceLT, Nat.reduceLeDiff, Nat.reduceMul, Nat.reduceSub, BEq.rfl, beq_self_eq_true, Int.reduceToNat]
      (refine hK _ ?_)
      clear hK K
      refine AWP.ret ?_
      subst hz1
      dsimp only at hR
      subst hR
      (simp only [en, si, ea, gv, sv, hk, reduceCtorEq, reduceIte, Nat.reduceBEq, Nat.reduceAdd, Nat.reduceEqDiff, Nat.reduceLT, Nat.reduceLeDiff, Nat.reduceMul, Nat.reduceSub, BEq.rfl, beq_self_eq_true, Int.reduceToNat]; done)
    · (simp only [hb, cond_false] at hz1)
      refine AWP.skip ?_
      refine AWP.regS G_ok impl_ValidStore_DD hc (by kernel_rfl) (fun K hK => ?_); simp only [ea, gv, sv, D_impl_Store_sums, D_impl_isSpare, D_slices_ContainsFunc_int64__impl_ValidStore_1, D_impl_Store_spareOf, D_impl_isEntry, D_impl_few, reduceCtorEq, reduceIte, Nat.reduceBEq, Nat.reduceAdd, Nat.reduceEqDiff, Nat.reduceLT, Nat.reduceLeDiff, Nat.reduceMul, Nat.reduceSub, BEq.rfl, beq_self_eq_true, Int.reduceToNat]
      (refine hK _ ?_)
      clear hK K
      exact ⟨_, [0], hlt1, by (trivial), hz1, by (simp only [si, ea, gv, sv, hk, reduceCtorEq, reduceIte, Nat.reduceBEq, Nat.reduceAdd, Nat.reduceEqDiff, Nat.reduceLT, Nat.reduceLeDiff, Nat.reduceMul, Nat.reduceSub, BEq.rfl, beq_self_eq_true, Int.reduceToNat]; (and_intros <;> first | trivial | (rw [IntKind.wrap_i64]; omega)))⟩
  · obtain rfl : i1 = a0.Spares.length := by ((simp only [ob, ln, bdv, sv] at *; omega))
    rw [loopR_ge (Nat.le_refl _)] at hz1; subst hz1; dsimp only at hR
    refine AWP.exit ?_; refine exitTo_here ?_
    refine AWP.seq ?_
    refine AWP.seq ?_
    refine AWP.regS G_ok impl_ValidStore_DD hc (by kernel_rfl) (fun K hK => ?_); simp only [ea, gv, sv, D_impl_Store_sums, D_impl_isSpare, D_slices_ContainsFunc_int64__impl_ValidStore_1, D_impl_Store_spareOf, D_impl_isEntry, D_impl_few, reduceCtorEq, reduceIte, Nat.reduceBEq, Nat.reduceAdd, Nat.reduceEqDiff, Nat.reduceLT, Nat.reduceLeDiff, Nat.reduceMul, Nat.reduceSub, BEq.rfl, beq_self_eq_true, Int.reduceToNat]
    (refine hK _ ?_)
    clear hK K
    refine AWP.block ?_
    refine AWP.lensS 52 rfl (fun hLn2 => ?_)
    generalize hz2 : loopR (impl_ValidStore_b2 a0 s1) (a0.Entries.length - 0) 0 () = z2 at hR
    refine AWP.range (impl_ValidStore_b2 a0 s1) (fun i2 s2 => ⟨[(1, .ptr 0 0), (52, encL 3 eEntry a0.Entries), (53, .int .i64 (a0.Entries.length : Int)), (54, .int .i64 (i2 : Int))], [.box [encL 3 eSpare a0.Spares, encL 3 eEntry a0.Entries]]⟩) (fun i2 s2 => True) (a0.Entries.length) 0 () [0] hz2 (by (omega)) (by (trivial)) (by (simp only [si, ea, gv, sv, hk, reduceCtorEq, reduceIte, Nat.reduceBEq, Nat.reduceAdd, Nat.reduceEqDiff, Nat.reduceLT, Nat.reduceLeDiff, Nat.reduceMul, Nat.reduceSub, BEq.rfl, beq_self_eq_true, Int.reduceToNat]; trivial)) ?_
    clear hz2
    intro i2 s2 hi2 hW2 hz2
    refine AWP.seq ?_
    refine AWP.regS G_ok impl_ValidStore_DD hc (by kernel_rfl) (fun K hK => ?_); simp only [ea, gv, sv, D_impl_Store_sums, D_impl_isSpare, D_slices_ContainsFunc_int64__impl_ValidStore_1, D_impl_Store_spareOf, D_impl_isEntry, D_impl_few, reduceCtorEq, reduceIte, Nat.reduceBEq, Nat.reduceAdd, Nat.reduceEqDiff, Nat.reduceLT, Nat.reduceLeDiff, Nat.reduceMul, Nat.reduceSub, BEq.rfl, beq_self_eq_true, Int.reduceToNat]
    (refine hK _ ?_)
    clear hK K
    refine AWP.seq ?_
    refine AWP.cond rfl (fun hb => ?_) (fun hb => ?_)
    · have hlt2 : i2 < a0.Entries.length := by ((simp only [ob, ln, bdv, sv] at *; omega))
      rw [loopR_lt hlt2] at hz2; simp only [impl_ValidStore_b2] at hz2
      refine AWP.skip ?_
      refine AWP.seq ?_
      refine AWP.block ?_
      refine AWP.seq ?_
      refine AWP.regS G_ok impl_ValidStore_DD hc (by kernel_rfl) (fun K hK => ?_); simp only [ea, gv, sv, D_impl_Store_sums, D_impl_isSpare, D_slices_ContainsFunc_int64__impl_ValidStore_1, D_impl_Store_spareOf, D_impl_isEntry, D_impl_few, reduceCtorEq, reduceIte, Nat.reduceBEq, Nat.reduceAdd, Nat.reduceEqDiff, Nat.reduceLT, Nat.reduceLeDiff, Nat.reduceMul, Nat.reduceSub, BEq.rfl, beq_self_eq_true, Int.reduceToNat]
      (refine ⟨by (omega), hK _ ?_⟩)
      clear hK K
      refine AWP.seq ?_
      refine AWP.regS G_ok impl_ValidStore_DD hc (by kernel_rfl) (fun K hK => ?_); simp only [ea, gv, sv, D_impl_Store_sums, D_impl_isSpare, D_slices_ContainsFunc_int64__impl_ValidStore_1, D_impl_Store_spareOf, D_impl_isEntry, D_impl_few, reduceCtorEq, reduceIte, Nat.reduceBEq, Nat.reduceAdd, Nat.reduceEqDiff, Nat.reduceLT, Nat.reduceLeDiff, Nat.reduceMul, Nat.reduceSub, BEq.rfl, beq_self_eq_true, Int.reduceToNat]
      (refine hK _ ?_)
      clear hK K
      refine AWP.seq ?_
      refine AWP.regD mixed G_ok impl_ValidStore_DD hc 23 (by kernel_rfl) (by kernel_rfl) (fun K hK => ?_); simp only [ea, gv, sv, D_impl_Store_sums, D_impl_isSpare, D_slices_ContainsFunc_int64__impl_ValidStore_1, D_impl_Store_spareOf, D_impl_isEntry, D_impl_few, reduceCtorEq, reduceIte, Nat.reduceBEq, Nat.reduceAdd, Nat.reduceEqDiff, Nat.reduceLT, Nat.reduceLeDiff, Nat.reduceMul, Nat.reduceSub, BEq.rfl, beq_self_eq_true, Int.reduceToNat]
      (refine ⟨by ((simp only [ob, ln, bdv, sv] at *; omega)), hK _ ?_⟩)
      clear hK K
      refine AWP.cond rfl (fun hb => ?_) (fun hb => ?_)
      · (simp only [hb, cond_true] at hz2)
        refine AWP.seq ?_
        refine AWP.regS G_ok impl_ValidStore_DD hc (by kernel_rfl) (fun K hK => ?_); simp only [ea, gv, sv, D_impl_Store_sums, D_impl_isSpare, D_slices_ContainsFunc_int64__impl_ValidStore_1, D_impl_Store_spareOf, D_impl_isEntry, D_impl_few, reduceCtorEq, reduceIte, Nat.reduceBEq, Nat.reduceAdd, Nat.reduceEqDiff, Nat.reduceLT, Nat.reduceLeDiff, Nat.reduceMul, Nat.reduceSub, BEq.rfl, beq_self_eq_true, Int.reduceToNat]
        (refine hK _ ?_)
        clear hK K
        refine AWP.ret ?_
        subst hz2
        dsimp only at hR
        subst hR
        (simp only [en, si, ea, gv, sv, hk, reduceCtorEq, reduceIte, Nat.reduceBEq, Nat.reduceAdd, Nat.reduceEqDiff, Nat.reduceLT, Nat.reduceLeDiff, Nat.reduceMul, Nat.reduceSub, BEq.rfl, beq_self_eq_true, Int.reduceToNat]; done)
      · (simp only [hb, cond_false] at hz2)
        refine AWP.skip ?_
        refine AWP.regS G_ok impl_ValidStore_DD hc (by kernel_rfl) (fun K hK => ?_); simp only [ea, gv, sv, D_impl_Store_sums, D_impl_isSpare, D_slices_ContainsFunc_int64__impl_ValidStore_1, D_impl_Store_spareOf, D_impl_isEntry, D_impl_few, reduceCtorEq, reduceIte, Nat.reduceBEq, Nat.reduceAdd, Nat.reduceEqDiff, Nat.reduceLT, Nat.reduceLeDiff, Nat.reduceMul, Nat.reduceSub, BEq.rfl, beq_self_eq_true, Int.reduceToNat]
        (refine hK _ ?_)
        clear hK K
        exact ⟨_, [0], hlt2, by (trivial), hz2, by (simp only [si, ea, gv, sv, hk, reduceCtorEq, reduceIte, Nat.reduceBEq, Nat.reduceAdd, Nat.reduceEqDiff, Nat.reduceLT, Nat.reduceLeDiff, Nat.reduceMul, Nat.reduceSub, BEq.rfl, beq_self_eq_true, Int.reduceToNat]; (and_intros <;> first | trivial | (rw [IntKind.wrap_i64]; omega)))⟩
    · obtain rfl : i2 = a0.Entries.length := by ((simp only [ob, ln, bdv, sv] at *; omega))
      rw [loopR_ge (Nat.le_refl _)] at hz2; subst hz2; dsimp only at hR
      refine AWP.exit ?_; refine exitTo_here ?_
      refine AWP.seq ?_
      refine AWP.regS G_ok impl_ValidStore_DD hc (by kernel_rfl) (fun K hK => ?_); simp only [ea, gv, sv, D_impl_Store_sums, D_impl_isSpare, D_slices_ContainsFunc_int64__impl_ValidStore_1, D_impl_Store_spareOf, D_impl_isEntry, D_impl_few, reduceCtorEq, reduceIte, Nat.reduceBEq, Nat.reduceAdd, Nat.reduceEqDiff, Nat.reduceLT, Nat.reduceLeDiff, Nat.reduceMul, Nat.reduceSub, BEq.rfl, beq_self_eq_true, Int.reduceToNat]
      (refine hK _ ?_)
      clear hK K
      refine AWP.ret ?_
      subst hR
      (simp only [en, si, ea, gv, sv, hk, reduceCtorEq, reduceIte, Nat.reduceBEq, Nat.reduceAdd, Nat.reduceEqDiff, Nat.reduceLT, Nat.reduceLeDiff, Nat.reduceMul, Nat.reduceSub, BEq.rfl, beq_self_eq_true, Int.reduceToNat]; done)
def D_impl_ValidStore : DF
  | [x0] => some (.bool (impl_ValidStore (rdG dStore x0)), false, [wG eStore dStore x0, bdStore (rdG dStore x0)])
  | _ => none
theorem D_impl_ValidStore_ok : OkD Try.prog 18 D_impl_ValidStore := by
  intro xs r z ob h ho
  unfold D_impl_ValidStore at h
  split at h
  · simp only [Option.some.injEq, Prod.mk.injEq] at h
    obtain ⟨rfl, rfl, rfl⟩ := h
    obtain ⟨h0, hb0, _⟩ := ho
    exact Den.sim (impl_ValidStore_den _ hb0) (simOL_cons (wG_sim h0).1 <| trivial) (noIdL_cons (wG_sim h0).2 <| rfl) rfl
  · cases h
end Go.Ab

namespace Go.Ab
open Go Go.Proofs
theorem laws_eqStore_DD : DOk Try.prog (DD [(60, dP D_laws_eqEntryS), (73, dP D_laws_eqSpareS)]) := DD_cons D_laws_eqEntryS_ok.e <| DD_cons D_laws_eqSpareS_ok.e <| DD_nil _
def laws_eqStore (a0 : Store) (a1 : Store) : Bool :=
  (bif (!(laws_eqSpareS a0.Spares a1.Spares)) then false else (bif (!(laws_eqEntryS a0.Entries a1.Entries)) then false else true))
theorem laws_eqStore_den (a0 : Store) (a1 : Store)  : Den Try.prog 19 [.agg (eStore a0), .agg (eStore a1)] (.bool (laws_eqStore a0 a1)) := by
  generalize hR : laws_eqStore a0 a1 = r
  unfold laws_eqStore at hR
  refine den_intro G_ok Try.func19 (by kernel_rfl) rfl Try.ntmps19 (by rw [Try.results19]) (by simp) rfl ?_
  intro c hL hc hk
  obtain ⟨hL0, hL1, _⟩ := hL
  have hw0 : bwStore a0 := Store_lens a0 hL0
  have hw1 : bwStore a1 := Store_lens a1 hL1
  clear hL0 hL1
  simp only [pars, Nat.zero_add]
  refine AWP.seq ?_
  refine AWP.regS G_ok laws_eqStore_DD hc (by kernel_rfl) (fun K hK => ?_); simp only [ea, gv, sv, D_laws_eqEntryS, D_laws_eqSpareS, reduceCtorEq, reduceIte, Nat.reduceBEq, Nat.reduceAdd, Nat.reduceEqDiff, Nat.reduceLT, Nat.reduceLeDiff, Nat.reduceMul, Nat.reduceSub, BEq.rfl, beq_self_eq_true, Int.reduceToNat]
  (refine hK _ ?_)
  clear hK K
  refine AWP.seq ?_
  refine AWP.seq ?_
  refine AWP.regS G_ok laws_eqStore_DD hc (by kernel_rfl) (fun K hK => ?_); simp only [ea, gv, sv, D_laws_eqEntryS, D_laws_eqSpareS, reduceCtorEq, reduceIte, Nat.reduceBEq, Nat.reduceAdd, Nat.reduceEqDiff, Nat.reduceLT, Nat.reduceLeDiff, Nat.reduceMul, Nat.reduceSub, BEq.rfl, beq_self_eq_true, Int.reduceToNat]
  (refine hK _ ?_)
  clear hK K
  refine AWP.cond rfl (fun hb => ?_) (fun hb => ?_)
  · (simp only [hb, cond_true] at hR)
    refine AWP.seq ?_
    refine AWP.regS G_ok laws_eqStore_DD hc (by kernel_rfl) (fun K hK => ?_); simp only [ea, gv, sv, D_laws_eqEntryS, D_laws_eqSpareS, reduceCtorEq, reduceIte, Nat.reduceBEq, Nat.reduceAdd, Nat.reduceEqDiff, Nat.reduceLT, Nat.reduceLeDiff, Nat.reduceMul, Nat.reduceSub, BEq.rfl, beq_self_eq_true, Int.reduceToNat]
    (refine hK _ ?_)
    clear hK K
    refine AWP.ret ?_
    subst hR
    (simp only [en, si, ea, gv, sv, hk, reduceCtorEq, reduceIte, Nat.reduceBEq, Nat.reduceAdd, Nat.reduceEqDiff, Nat.reduceLT, Nat.reduceLeDiff, Nat.reduceMul, Nat.reduceSub, BEq.rfl, beq_self_eq_true, Int.reduceToNat]; done)
  · (simp only [hb, cond_false] at hR)
    refine AWP.skip ?_
    refine AWP.seq ?_
    refine AWP.seq ?_
    refine AWP.regS G_ok laws_eqStore_DD hc (by kernel_rfl) (fun K hK => ?_); simp only [ea, gv, sv, D_laws_eqEntryS, D_laws_eqSpareS, reduceCtorEq, reduceIte, Nat.reduceBEq, Nat.reduceAdd, Nat.reduceEqDiff, Nat.reduceLT, Nat.reduceLeDiff, Nat.reduceMul, Nat.reduceSub, BEq.rfl, beq_self_eq_true, Int.reduceToNat]
    (refine hK _ ?_)
    clear hK K
    refine AWP.cond rfl (fun hb => ?_) (fun hb => ?_)
    · (simp only [hb, cond_true] at hR)
      refine AWP.seq ?_
      refine AWP.regS G_ok laws_eqStore_DD hc (by kernel_rfl) (fun K hK => ?_); simp only [ea, gv, sv, D_laws_eqEntryS, D_laws_eqSpareS, reduceCtorEq, reduceIte, Nat.reduceBEq, Nat.reduceAdd, Nat.reduceEqDiff, Nat.reduceLT, Nat.reduceLeDiff, Nat.reduceMul, Nat.reduceSub, BEq.rfl, beq_self_eq_true, Int.reduceToNat]
      (refine hK _ ?_)
      clear hK K
      refine AWP.ret ?_
      subst hR
      (simp only [en, si, ea, gv, sv, hk, reduceCtorEq, reduceIte, Nat.reduceBEq, Nat.reduceAdd, Nat.reduceEqDiff, Nat.reduceLT, Nat.reduceLeDiff, Nat.reduceMul, Nat.reduceSub, BEq.rfl, beq_self_eq_true, Int.reduceToNat]; done)
    · (simp only [hb, cond_false] at hR)
      refine AWP.skip ?_
      refine AWP.seq ?_
      refine AWP.regS G_ok laws_eqStore_DD hc (by kernel_rfl) (fun K hK => ?_); simp only [ea, gv, sv, D_laws_eqEntryS, D_laws_eqSpareS, reduceCtorEq, reduceIte, Nat.reduceBEq, Nat.reduceAdd, Nat.reduceEqDiff, Nat.reduceLT, Nat.reduceLeDiff, Nat.reduceMul, Nat.reduceSub, BEq.rfl, beq_self_eq_true, Int.reduceToNat]
      (refine hK _ ?_)
      clear hK K
      refine AWP.ret ?_
      subst hR
      (simp only [en, si, ea, gv, sv, hk, reduceCtorEq, reduceIte, Nat.reduceBEq, Nat.reduceAdd, Nat.reduceEqDiff, Nat.reduceLT, Nat.reduceLeDiff, Nat.reduceMul, Nat.reduceSub, BEq.rfl, beq_self_eq_true, Int.reduceToNat]; done)
def D_laws_eqStore : DF
  | [x0, x1] => some (.bool (laws_eqStore (rdG dStore x0) (rdG dStore x1)), false, [wG eStore dStore x0, wG eStore dStore x1])
  | _ => none
theorem D_laws_eqStore_ok : OkD Try.prog 19 D_laws_eqStore := by
  intro xs r z ob h ho
  unfold D_laws_eqStore at h
  split at h
  · simp only [Option.some.injEq, Prod.mk.injEq] at h
    obtain ⟨rfl, rfl, rfl⟩ := h
    obtain ⟨h0, h1, _⟩ := ho
    exact Den.sim (laws_eqStore_den _ _ ) (simOL_cons (wG_sim h0).1 <| simOL_cons (wG_sim h1).1 <| trivial) (noIdL_cons (wG_sim h0).2 <| noIdL_cons (wG_sim h1).2 <| rfl) rfl
  · cases h
end Go.Ab

namespace Go.Ab
open Go Go.Proofs
theorem impl_ValidStore_len (a : Store) (h : impl_ValidStore a = true) : a.Spares.length ≤ 16 ∧ a.Entries.length ≤ 48 := by
  unfold impl_ValidStore at h
  split at h
  · rename_i e he
    obtain ⟨j, t, h1, h2, h3⟩ := loopR_error he
    simp only [impl_ValidStore_b1] at h3
    revert h3
    generalize (((!(impl_isSpare _)) || _) || _ : Bool) = q
    cases q <;> simp
    rintro rfl; simp at h
  · split at h
    · rename_i e he
      obtain ⟨j, t, h1, h2, h3⟩ := loopR_error he
      simp only [impl_ValidStore_b2] at h3
      revert h3
      generalize (((!(impl_isEntry _)) || _) || _ : Bool) = q
      cases q <;> simp
      rintro rfl; simp at h
    · simp only [impl_few, Bool.and_eq_true, decide_eq_true_eq] at h
      omega
end Go.Ab

namespace Go.Ab
open Go Go.Proofs
theorem laws_FnExactValidStore_DD : DOk Try.prog (DD [(15, dP D_laws_szStore), (16, dP D_spec_ValidStore), (17, dP D_laws_toStore), (18, dP D_impl_ValidStore), (19, dP D_laws_eqStore)]) := DD_cons D_laws_szStore_ok.e <| DD_cons D_spec_ValidStore_ok.e <| DD_cons D_laws_toStore_ok.e <| DD_cons D_impl_ValidStore_ok.e <| DD_cons D_laws_eqStore_ok.e <| DD_nil _
theorem laws_FnExactValidStore_DZ : DOk Try.prog (DD [(15, dP D_laws_szStore), (16, dP D_spec_ValidStore), (17, dP Dz_laws_toStore), (18, dP D_impl_ValidStore), (19, dP D_laws_eqStore)]) := DD_cons D_laws_szStore_ok.e <| DD_cons D_spec_ValidStore_ok.e <| DD_cons Dz_laws_toStore_ok.e <| DD_cons D_impl_ValidStore_ok.e <| DD_cons D_laws_eqStore_ok.e <| DD_nil _
def laws_FnExactValidStore (a0 : Store) : Bool :=
  (bif decide ((laws_szStore a0 1048576) < 0) then true else (bif (!((impl_ValidStore ({ Spares := (laws_toStore a0).Spares, Entries := (laws_toStore a0).Entries : Store })) == (spec_ValidStore ({ Spares := (laws_toStore a0).Spares, Entries := (laws_toStore a0).Entries : Store })))) then false else (bif (!(laws_eqStore ({ Spares := (laws_toStore a0).Spares, Entries := (laws_toStore a0).Entries : Store }) (laws_toStore a0))) then false else true)))
theorem laws_FnExactValidStore_den (a0 : Store)  : Den Try.prog 3 [.agg (eStore a0)] (.bool (laws_FnExactValidStore a0)) := by
  generalize hR : laws_FnExactValidStore a0 = r
  unfold laws_FnExactValidStore at hR
  refine den_intro G_ok Try.func3 (by kernel_rfl) rfl Try.ntmps3 (by rw [Try.results3]) (by simp) rfl ?_
  intro c hL hc hk
  obtain ⟨hL0, _⟩ := hL
  have hw0 : bwStore a0 := Store_lens a0 hL0
  clear hL0
  simp only [pars, Nat.zero_add]
  have hf0 := laws_szStore_facts a0 (1048576) (by omega) (by omega) hw0
  refine AWP.seq ?_
  refine AWP.regS G_ok laws_FnExactValidStore_DD hc (by kernel_rfl) (fun K hK => ?_); simp only [ea, gv, sv, D_laws_szStore, D_spec_ValidStore, D_laws_toStore, D_impl_ValidStore, D_laws_eqStore, Dz_laws_toStore, reduceCtorEq, reduceIte, Nat.reduceBEq, Nat.reduceAdd, Nat.reduceEqDiff, Nat.reduceLT, Nat.reduceLeDiff, Nat.reduceMul, Nat.reduceSub, BEq.rfl, beq_self_eq_true, Int.reduceToNat]
  (refine hK _ ?_)
  clear hK K
  refine AWP.seq ?_
  refine AWP.regS G_ok laws_FnExactValidStore_DD hc (by kernel_rfl) (fun K hK => ?_); simp only [ea, gv, sv, D_laws_szStore, D_spec_ValidStore, D_laws_toStore, D_impl_ValidStore, D_laws_eqStore, Dz_laws_toStore, reduceCtorEq, reduceIte, Nat.reduceBEq, Nat.reduceAdd, Nat.reduceEqDiff, Nat.reduceLT, Nat.reduceLeDiff, Nat.reduceMul, Nat.reduceSub, BEq.rfl, beq_self_eq_true, Int.reduceToNat]
  (refine hK _ ?_)
  clear hK K
  refine AWP.seq ?_
  refine AWP.regS G_ok laws_FnExactValidStore_DD hc (by kernel_rfl) (fun K hK => ?_); simp only [ea, gv, sv, D_laws_szStore, D_spec_ValidStore, D_laws_toStore, D_impl_ValidStore, D_laws_eqStore, Dz_laws_toStore, reduceCtorEq, reduceIte, Nat.reduceBEq, Nat.reduceAdd, Nat.reduceEqDiff, Nat.reduceLT, Nat.reduceLeDiff, Nat.reduceMul, Nat.reduceSub, BEq.rfl, beq_self_eq_true, Int.reduceToNat]
  (refine ⟨by (trivial), hK _ ?_⟩)
  clear hK K
  refine AWP.seq ?_
  refine AWP.seq ?_
  refine AWP.regS G_ok laws_FnExactValidStore_DD hc (by kernel_rfl) (fun K hK => ?_); simp only [ea, gv, sv, D_laws_szStore, D_spec_ValidStore, D_laws_toStore, D_impl_ValidStore, D_laws_eqStore, Dz_laws_toStore, reduceCtorEq, reduceIte, Nat.reduceBEq, Nat.reduceAdd, Nat.reduceEqDiff, Nat.reduceLT, Nat.reduceLeDiff, Nat.reduceMul, Nat.reduceSub, BEq.rfl, beq_self_eq_true, Int.reduceToNat]
  (refine hK _ ?_)
  clear hK K
  refine AWP.cond rfl (fun hb => ?_) (fun hb => ?_)
  · (simp only [hb, cond_true] at hR)
    refine AWP.seq ?_
    refine AWP.regS G_ok laws_FnExactValidStore_DD hc (by kernel_rfl) (fun K hK => ?_); simp only [ea, gv, sv, D_laws_szStore, D_spec_ValidStore, D_laws_toStore, D_impl_ValidStore, D_laws_eqStore, Dz_laws_toStore, reduceCtorEq, reduceIte, Nat.reduceBEq, Nat.reduceAdd, Nat.reduceEqDiff, Nat.reduceLT, Nat.reduceLeDiff, Nat.reduceMul, Nat.reduceSub, BEq.rfl, beq_self_eq_true, Int.reduceToNat]
    (refine hK _ ?_)
    clear hK K
    refine AWP.ret ?_
    subst hR
    (simp only [en, si, ea, gv, sv, hk, reduceCtorEq, reduceIte, Nat.reduceBEq, Nat.reduceAdd, Nat.reduceEqDiff, Nat.reduceLT, Nat.reduceLeDiff, Nat.reduceMul, Nat.reduceSub, BEq.rfl, beq_self_eq_true, Int.reduceToNat]; done)
  · (simp only [hb, cond_false] at hR)
    refine AWP.skip ?_
    refine AWP.seq ?_
    refine AWP.regS G_ok laws_FnExactValidStore_DD hc (by kernel_rfl) (fun K hK => ?_); simp only [ea, gv, sv, D_laws_szStore, D_spec_ValidStore, D_laws_toStore, D_impl_ValidStore, D_laws_eqStore, Dz_laws_toStore, reduceCtorEq, reduceIte, Nat.reduceBEq, Nat.reduceAdd, Nat.reduceEqDiff, Nat.reduceLT, Nat.reduceLeDiff, Nat.reduceMul, Nat.reduceSub, BEq.rfl, beq_self_eq_true, Int.reduceToNat]
    (refine ⟨by (((try clear hK K); (repeat' first | apply And.intro | intro _) <;> first | omega | (simp only [ob, ln, bdv, laws_toStore_id, sv] at *; first | omega | (simp_all; done)))), hK _ ?_⟩)
    clear hK K
    refine AWP.seq ?_
    refine AWP.regS G_ok laws_FnExactValidStore_DD hc (by kernel_rfl) (fun K hK => ?_); simp only [ea, gv, sv, D_laws_szStore, D_spec_ValidStore, D_laws_toStore, D_impl_ValidStore, D_laws_eqStore, Dz_laws_toStore, reduceCtorEq, reduceIte, Nat.reduceBEq, Nat.reduceAdd, Nat.reduceEqDiff, Nat.reduceLT, Nat.reduceLeDiff, Nat.reduceMul, Nat.reduceSub, BEq.rfl, beq_self_eq_true, Int.reduceToNat]
    (refine ⟨by (((try clear hK K); (repeat' first | apply And.intro | intro _) <;> (simp only [ob, ln, bdv, laws_toStore_id, sv] at *; first | omega | (simp_all; done)))), hK _ ?_⟩)
    clear hK K
    refine AWP.seq ?_
    refine AWP.regS G_ok laws_FnExactValidStore_DD hc (by kernel_rfl) (fun K hK => ?_); simp only [ea, gv, sv, D_laws_szStore, D_spec_ValidStore, D_laws_toStore, D_impl_ValidStore, D_laws_eqStore, Dz_laws_toStore, reduceCtorEq, reduceIte, Nat.reduceBEq, Nat.reduceAdd, Nat.reduceEqDiff, Nat.reduceLT, Nat.reduceLeDiff, Nat.reduceMul, Nat.reduceSub, BEq.rfl, beq_self_eq_true, Int.reduceToNat]
    (refine ⟨by (((try clear hK K); (repeat' first | apply And.intro | intro _) <;> first | omega | (simp only [ob, ln, bdv, laws_toStore_id, sv] at *; first | omega | (simp_all; done)))), hK _ ?_⟩)
    clear hK K
    refine AWP.seq ?_
    refine AWP.seq ?_
    refine AWP.regS G_ok laws_FnExactValidStore_DD hc (by kernel_rfl) (fun K hK => ?_); simp only [ea, gv, sv, D_laws_szStore, D_spec_ValidStore, D_laws_toStore, D_impl_ValidStore, D_laws_eqStore, Dz_laws_toStore, reduceCtorEq, reduceIte, Nat.reduceBEq, Nat.reduceAdd, Nat.reduceEqDiff, Nat.reduceLT, Nat.reduceLeDiff, Nat.reduceMul, Nat.reduceSub, BEq.rfl, beq_self_eq_true, Int.reduceToNat]
    (refine hK _ ?_)
    clear hK K
    refine AWP.cond rfl (fun hb => ?_) (fun hb => ?_)
    · (simp only [hb, cond_true] at hR)
      refine AWP.seq ?_
      refine AWP.regS G_ok laws_FnExactValidStore_DD hc (by kernel_rfl) (fun K hK => ?_); simp only [ea, gv, sv, D_laws_szStore, D_spec_ValidStore, D_laws_toStore, D_impl_ValidStore, D_laws_eqStore, Dz_laws_toStore, reduceCtorEq, reduceIte, Nat.reduceBEq, Nat.reduceAdd, Nat.reduceEqDiff, Nat.reduceLT, Nat.reduceLeDiff, Nat.reduceMul, Nat.reduceSub, BEq.rfl, beq_self_eq_true, Int.reduceToNat]
      (refine hK _ ?_)
      clear hK K
      refine AWP.ret ?_
      subst hR
      (simp only [en, si, ea, gv, sv, hk, reduceCtorEq, reduceIte, Nat.reduceBEq, Nat.reduceAdd, Nat.reduceEqDiff, Nat.reduceLT, Nat.reduceLeDiff, Nat.reduceMul, Nat.reduceSub, BEq.rfl, beq_self_eq_true, Int.reduceToNat]; done)
    · (simp only [hb, cond_false] at hR)
      refine AWP.skip ?_
      refine AWP.seq ?_
      refine AWP.seq ?_
      refine AWP.regD mixed G_ok laws_FnExactValidStore_DZ hc 3 (by kernel_rfl) (by kernel_rfl) (fun K hK => ?_); simp only [ea, gv, sv, D_laws_szStore, D_spec_ValidStore, D_laws_toStore, D_impl_ValidStore, D_laws_eqStore, Dz_laws_toStore, reduceCtorEq, reduceIte, Nat.reduceBEq, Nat.reduceAdd, Nat.reduceEqDiff, Nat.reduceLT, Nat.reduceLeDiff, Nat.reduceMul, Nat.reduceSub, BEq.rfl, beq_self_eq_true, Int.reduceToNat]
      (refine ⟨by (((try clear hK K); (repeat' first | apply And.intro | intro _) <;> first | omega | (simp only [ob, ln, bdv, laws_toStore_id, sv] at *; first | omega | (simp_all; done)))), hK _ ?_⟩)
      clear hK K
      refine AWP.cond rfl (fun hb => ?_) (fun hb => ?_)
      · (simp only [hb, cond_true] at hR)
        refine AWP.seq ?_
        refine AWP.regS G_ok laws_FnExactValidStore_DD hc (by kernel_rfl) (fun K hK => ?_); simp only [ea, gv, sv, D_laws_szStore, D_spec_ValidStore, D_laws_toStore, D_impl_ValidStore, D_laws_eqStore, Dz_laws_toStore, reduceCtorEq, reduceIte, Nat.reduceBEq, Nat.reduceAdd, Nat.reduceEqDiff, Nat.reduceLT, Nat.reduceLeDiff, Nat.reduceMul, Nat.reduceSub, BEq.rfl, beq_self_eq_true, Int.reduceToNat]
        (refine hK _ ?_)
        clear hK K
        refine AWP.ret ?_
        subst hR
        (simp only [en, si, ea, gv, sv, hk, reduceCtorEq, reduceIte, Nat.reduceBEq, Nat.reduceAdd, Nat.reduceEqDiff, Nat.reduceLT, Nat.reduceLeDiff, Nat.reduceMul, Nat.reduceSub, BEq.rfl, beq_self_eq_true, Int.reduceToNat]; done)
      · (simp only [hb, cond_false] at hR)
        refine AWP.skip ?_
        refine AWP.seq ?_
        refine AWP.regS G_ok laws_FnExactValidStore_DD hc (by kernel_rfl) (fun K hK => ?_); simp only [ea, gv, sv, D_laws_szStore, D_spec_ValidStore, D_laws_toStore, D_impl_ValidStore, D_laws_eqStore, Dz_laws_toStore, reduceCtorEq, reduceIte, Nat.reduceBEq, Nat.reduceAdd, Nat.reduceEqDiff, Nat.reduceLT, Nat.reduceLeDiff, Nat.reduceMul, Nat.reduceSub, BEq.rfl, beq_self_eq_true, Int.reduceToNat]
        (refine hK _ ?_)
        clear hK K
        refine AWP.ret ?_
        subst hR
        (simp only [en, si, ea, gv, sv, hk, reduceCtorEq, reduceIte, Nat.reduceBEq, Nat.reduceAdd, Nat.reduceEqDiff, Nat.reduceLT, Nat.reduceLeDiff, Nat.reduceMul, Nat.reduceSub, BEq.rfl, beq_self_eq_true, Int.reduceToNat]; done)
def D_laws_FnExactValidStore : DF
  | [x0] => some (.bool (laws_FnExactValidStore (rdG dStore x0)), false, [wG eStore dStore x0])
  | _ => none
theorem D_laws_FnExactValidStore_ok : OkD Try.prog 3 D_laws_FnExactValidStore := by
  intro xs r z ob h ho
  unfold D_laws_FnExactValidStore at h
  split at h
  · simp only [Option.some.injEq, Prod.mk.injEq] at h
    obtain ⟨rfl, rfl, rfl⟩ := h
    obtain ⟨h0, _⟩ := ho
    exact Den.sim (laws_FnExactValidStore_den _ ) (simOL_cons (wG_sim h0).1 <| trivial) (noIdL_cons (wG_sim h0).2 <| rfl) rfl
  · cases h
end Go.Ab

namespace Go.Ab
open Go Go.Proofs
theorem laws_eqStore_dec (a b : Store) : laws_eqStore a b = decide (a = b) := by
  unfold laws_eqStore
  rw [laws_eqSpareS_dec, laws_eqEntryS_dec]
  obtain ⟨s, e⟩ := a
  obtain ⟨t, f⟩ := b
  by_cases h1 : s = t <;> by_cases h2 : e = f <;> simp [h1, h2]
theorem isSmall (x : UInt8) : spec_l01Small (x.toNat : Int) = (decide (97 ≤ (x.toNat : Int)) && decide ((x.toNat : Int) ≤ 122)) := by
  unfold spec_l01Small; rfl
theorem isDig (x : UInt8) : spec_l01Digit (x.toNat : Int) = impl_isDigit (x.toNat : Int) := by
  unfold spec_l01Digit impl_isDigit; rfl
theorem isName_eq (a : List UInt8) : impl_IsName a = spec_l01Name a := by
  unfold impl_IsName spec_l01Name
  have h1 := loopR_all (b := impl_IsName_b1 a) (fun i => ((!(decide (97 ≤ ((a.getD i 0).toNat : Int)) && decide (((a.getD i 0).toNat : Int) ≤ 122))) && (((i : Int) == 0) || (!(impl_isDigit ((a.getD i 0).toNat : Int)))))) false a.length (fun j u _ => rfl)
  have h2 := loopR_all (b := spec_l01Name_b1 a) (fun i => ((!(spec_l01Small ((a.getD i 0).toNat : Int))) && (!(spec_l01Digit ((a.getD i 0).toNat : Int))))) false a.length (fun j u _ => rfl)
  simp only [isSmall, isDig] at h2 ⊢
  cases a with
  | nil => simp [loopR]
  | cons x t =>
    rcases h1 with ⟨g1, e1⟩ | ⟨⟨q, hq, g1⟩, e1⟩
    · rw [e1]
      have h0 := g1 0 (by simp)
      have : ∀ q, q < (x :: t).length → ((!(decide (97 ≤ (((x :: t).getD q 0).toNat : Int)) && decide ((((x :: t).getD q 0).toNat : Int) ≤ 122))) && (!(impl_isDigit (((x :: t).getD q 0).toNat : Int)))) = false := fun q hq => by
        have := g1 q hq
        revert this
        cases decide (97 ≤ (((x :: t).getD q 0).toNat : Int)) <;> cases decide ((((x :: t).getD q 0).toNat : Int) ≤ 122) <;> cases impl_isDigit (((x :: t).getD q 0).toNat : Int) <;> simp
      rcases h2 with ⟨g2, e2⟩ | ⟨⟨q, hq, g2⟩, e2⟩
      · rw [e2]
        simp only [impl_few]
        have h0' : (decide (97 ≤ (((x :: t).getD 0 0).toNat : Int)) && decide ((((x :: t).getD 0 0).toNat : Int) ≤ 122)) = true := by
          revert h0
          cases decide (97 ≤ (((x :: t).getD 0 0).toNat : Int)) <;> cases decide ((((x :: t).getD 0 0).toNat : Int) ≤ 122) <;> simp
        rw [h0']
        rw [show ((x :: t) != []) = true from rfl, show ((x :: t) == []) = false from rfl, Bool.true_and, Bool.false_or]
        by_cases hl : 10 < ((x :: t).length : Int)
        · rw [decide_eq_false (show ¬ ((x :: t).length : Int) ≤ 10 by omega), decide_eq_true hl]; rfl
        · rw [decide_eq_true (show ((x :: t).length : Int) ≤ 10 by omega), decide_eq_false hl]; rfl
      · rw [this q hq] at g2; cases g2
    · rw [e1]
      cases hc : (((x :: t) == [] || decide (10 < ((x :: t).length : Int))) || !(decide (97 ≤ (((x :: t).getD 0 0).toNat : Int)) && decide ((((x :: t).getD 0 0).toNat : Int) ≤ 122))) with
      | true => rfl
      | false =>
        rw [cond_false]
        have hc2 : (decide (97 ≤ (((x :: t).getD 0 0).toNat : Int)) && decide ((((x :: t).getD 0 0).toNat : Int) ≤ 122)) = true := by
          revert hc
          cases (decide (97 ≤ (((x :: t).getD 0 0).toNat : Int)) && decide ((((x :: t).getD 0 0).toNat : Int) ≤ 122)) <;> simp
        have hq0 : q ≠ 0 := by
          intro h
          subst h
          rw [hc2] at g1
          simp at g1
        rcases h2 with ⟨g2, e2⟩ | ⟨⟨q', hq', g2⟩, e2⟩
        · have := g2 q hq
          have hz : ((q : Int) == 0) = false := by simp; omega
          rw [hz, Bool.false_or] at g1
          rw [g1] at this
          cases this
        · rw [e2]
theorem isSpare_eq (x : Spare) : impl_isSpare x = spec_l29Item x := by
  unfold impl_isSpare spec_l29Item
  rw [isName_eq]; rfl
theorem isEntry_eq (x : Entry) : impl_isEntry x = spec_l29Entry x := by
  unfold impl_isEntry spec_l29Entry
  rw [isName_eq]; rfl
def ps (k : List UInt8) : List Entry → Int → List (Int × Int)
  | [], _ => []
  | e :: t, acc => bif e.Item == k then (e.Day, IntKind.wrap .i64 (acc + e.Amount)) :: ps k t (IntKind.wrap .i64 (acc + e.Amount)) else ps k t acc
theorem sums_eq (a : Store) (k : List UInt8) : impl_Store_sums a k = ((ps k a.Entries 0).map Prod.fst, (ps k a.Entries 0).map Prod.snd) := by
  unfold impl_Store_sums
  rw [loopR_list0 (b := impl_Store_sums_b1 a k) (fun e s => bif e.Item == k then .ok (IntKind.wrap .i64 (s.1 + e.Amount), s.2.1 ++ [e.Day], s.2.2 ++ [IntKind.wrap .i64 (s.1 + e.Amount)]) else .ok (s.1, s.2.1, s.2.2)) a.Entries _ (fun j u _ => rfl)]
  have : ∀ (es : List Entry) (acc : Int) (D S : List Int), ∃ z, loopL (ρ := List Int × List Int) (fun e s => bif e.Item == k then .ok (IntKind.wrap .i64 (s.1 + e.Amount), s.2.1 ++ [e.Day], s.2.2 ++ [IntKind.wrap .i64 (s.1 + e.Amount)]) else .ok (s.1, s.2.1, s.2.2)) es (acc, D, S) = .ok (z, D ++ (ps k es acc).map Prod.fst, S ++ (ps k es acc).map Prod.snd) := by
    intro es
    induction es with
    | nil => intro acc D S; exact ⟨acc, by simp [loopL, ps]⟩
    | cons e t ih =>
      intro acc D S
      rw [loopL_cons]
      simp only [ps]
      cases hk : e.Item == k with
      | true =>
        simp only [cond_true]
        obtain ⟨z, hz⟩ := ih (IntKind.wrap .i64 (acc + e.Amount)) (D ++ [e.Day]) (S ++ [IntKind.wrap .i64 (acc + e.Amount)])
        exact ⟨z, by rw [hz]; simp⟩
      | false =>
        simp only [cond_false]
        exact ih acc D S
  obtain ⟨z, hz⟩ := this a.Entries 0 [] []
  rw [hz]
  simp
theorem flow_eq (a : Store) (i : Nat) : spec_l29Flow a (i : Int) = (ps (a.Spares.getD i default).Name a.Entries 0).all (fun x => spec_l00In x.2 0 (a.Spares.getD i default).Most) := by
  unfold spec_l29Flow
  rw [loopR_list0 (b := spec_l29Flow_b1 a (i : Int)) (fun e s => bif e.Item == (a.Spares.getD i default).Name then (bif (!(spec_l00In (IntKind.wrap .i64 (s + e.Amount)) 0 (a.Spares.getD i default).Most)) then .error false else .ok (IntKind.wrap .i64 (s + e.Amount))) else .ok s) a.Entries _ (fun j u _ => rfl)]
  generalize (a.Spares.getD i default) = p
  suffices hh : ∀ (es : List Entry) (acc : Int), (match loopL (fun (e : Entry) (s : Int) => bif e.Item == p.Name then (bif (!(spec_l00In (IntKind.wrap .i64 (s + e.Amount)) 0 p.Most)) then .error false else .ok (IntKind.wrap .i64 (s + e.Amount))) else .ok s) es acc with | .error e => e | .ok s1 => true) = (ps p.Name es acc).all (fun x => spec_l00In x.2 0 p.Most) from hh a.Entries 0
  intro es
  induction es with
  | nil => intro acc; rfl
  | cons e t ih =>
    intro acc
    rw [loopL_cons]
    simp only [ps]
    cases hk : e.Item == p.Name with
    | true =>
      simp only [cond_true, List.all_cons]
      cases hi : spec_l00In (IntKind.wrap .i64 (acc + e.Amount)) 0 p.Most with
      | true =>
        rw [Bool.true_and]
        exact ih _
      | false => rfl
    | false =>
      simp only [cond_false]
      exact ih acc
theorem contains_eq (l : List Int) (x : Spare) : slices_ContainsFunc_int64__impl_ValidStore_1 l x = !(l.all fun n => spec_l00In n 0 x.Most) := by
  unfold slices_ContainsFunc_int64__impl_ValidStore_1 slices_IndexFunc_int64__impl_ValidStore_1
  have e : ∀ n, impl_ValidStore_1 n x = !(spec_l00In n 0 x.Most) := fun _ => rfl
  rcases loopR_first (b := slices_IndexFunc_int64__impl_ValidStore_1_b1 l x) (fun j => impl_ValidStore_1 (l.getD j default) x) (fun j => (j : Int)) (k := l.length - 0) (i := 0) (s := ()) (fun j u _ _ => rfl) with ⟨j, _, h2, h3, h4, h5⟩ | ⟨h1, h2⟩
  · rw [h5]
    simp only [Int.natCast_nonneg, decide_true]
    symm
    rw [Bool.not_eq_true', List.all_eq_false]
    refine ⟨l.getD j default, ?_, ?_⟩
    · rw [List.getD_eq_getElem?_getD, List.getElem?_eq_getElem (by omega), Option.getD_some]; exact List.getElem_mem _
    · rw [e, Bool.not_eq_true'] at h3
      rw [h3]; simp
  · rw [h2]
    simp only
    symm
    rw [show decide ((0 : Int) ≤ -1) = false from rfl, Bool.not_eq_false', List.all_eq_true]
    intro n hn
    obtain ⟨i, hi, rfl⟩ := List.getElem_of_mem hn
    have := h1 i (by omega) (by omega)
    rw [List.getD_eq_getElem?_getD, List.getElem?_eq_getElem hi, Option.getD_some] at this
    rw [e, Bool.not_eq_false'] at this
    exact this
theorem names_lt (a : Store) (hs : ∀ i, i < a.Spares.length → 0 < i → Op.bytesLess (a.Spares.getD (i - 1) default).Name (a.Spares.getD i default).Name = true) :
    ∀ d i, i + d + 1 < a.Spares.length → Op.bytesLess (a.Spares.getD i default).Name (a.Spares.getD (i + d + 1) default).Name = true
  | 0, i, h => by simpa using hs (i + 1) h (by omega)
  | d + 1, i, h => less_trans _ _ _ (names_lt a hs d i (by omega)) (by have := hs (i + (d + 1) + 1) h (by omega); rw [Nat.add_sub_cancel] at this; exact this)
theorem found_eq (a : Store) (k : List UInt8) (hl : a.Spares.length < 9223372036854775808) (hs : ∀ i, i < a.Spares.length → 0 < i → Op.bytesLess (a.Spares.getD (i - 1) default).Name (a.Spares.getD i default).Name = true) :
    (impl_Store_spareOf a k).2 = decide (0 ≤ spec_l29Find a k) ∧ (0 ≤ spec_l29Find a k → (impl_Store_spareOf a k).1 = spec_l29Find a k) := by
  obtain ⟨j, h1, h2, h3, h4⟩ := impl_Store_spareOf_spec a k hl
  rw [h4]
  rcases spec_l29Find_spec a k with ⟨i, g1, g2, g3, g4⟩ | ⟨g1, g2⟩
  · rw [g4]
    have hj : j = i := by
      rcases Nat.lt_trichotomy j i with h | h | h
      · rcases h3 with h3 | h3
        · omega
        · have := names_lt a hs (i - j - 1) j (by omega)
          rw [show j + (i - j - 1) + 1 = i by omega, g2] at this
          rw [this] at h3; cases h3
      · exact h
      · have := h2 i h
        rw [g2, less_irrefl] at this; cases this
    subst hj
    refine ⟨?_, fun _ => rfl⟩
    simp only [Int.natCast_nonneg, decide_true]
    exact decide_eq_true ⟨g1, g2⟩
  · rw [g2]
    refine ⟨?_, fun h => by simp at h⟩
    simp only
    rw [show decide ((0 : Int) ≤ -1) = false from rfl, decide_eq_false_iff_not]
    exact fun h => g1 j h.1 h.2
theorem and_true_iff {p q : Bool} : (p && q) = true ↔ p = true ∧ q = true := Bool.and_eq_true_iff
structure OkS (a : Store) : Prop where
  l1 : a.Spares.length ≤ 16
  l2 : a.Entries.length ≤ 48
  s1 : ∀ i, i < a.Spares.length → spec_l29Item (a.Spares.getD i default) = true
  s2 : ∀ i, i < a.Spares.length → 0 < i → Op.bytesLess (a.Spares.getD (i - 1) default).Name (a.Spares.getD i default).Name = true
  e1 : ∀ i, i < a.Entries.length → spec_l29Entry (a.Entries.getD i default) = true
  e2 : ∀ i, i < a.Entries.length → 0 ≤ spec_l29Find a (a.Entries.getD i default).Item
  e3 : ∀ i, i < a.Entries.length → 0 < i → (a.Entries.getD (i - 1) default).Day ≤ (a.Entries.getD i default).Day
  f : ∀ i, i < a.Spares.length → spec_l29Flow a (i : Int) = true
theorem specOk_iff (a : Store) : spec_l29Ok a = true ↔ OkS a := by
  unfold spec_l29Ok
  cases hc : (decide (16 < (a.Spares.length : Int)) || decide (48 < (a.Entries.length : Int))) with
  | true =>
    simp only [Bool.or_eq_true, decide_eq_true_eq] at hc
    simp only [cond_true, Bool.false_eq_true, false_iff]
    intro h
    have := h.l1; have := h.l2
    omega
  | false =>
    simp only [Bool.or_eq_false_iff, decide_eq_false_iff_not] at hc
    rw [cond_false]
    rcases loopR_all (b := spec_l29Ok_b1 a) (fun i => ((!(spec_l29Item (a.Spares.getD i default))) || (decide (0 < (i : Int)) && !(Op.bytesLess ((a.Spares.getD ((IntKind.wrap .i64 ((i : Int) - 1)).toNat) default).Name) ((a.Spares.getD i default).Name))))) false a.Spares.length (fun j u _ => rfl) with ⟨g1, h1⟩ | ⟨⟨q, hq, g1⟩, h1⟩
    · rw [h1]
      simp only
      have g1 : ∀ i, i < a.Spares.length → spec_l29Item (a.Spares.getD i default) = true ∧ (0 < i → Op.bytesLess (a.Spares.getD (i - 1) default).Name (a.Spares.getD i default).Name = true) := by
        intro i hi
        have := g1 i hi
        simp only [Bool.or_eq_false_iff, Bool.not_eq_false', Bool.and_eq_false_iff, decide_eq_false_iff_not] at this
        refine ⟨this.1, fun h0 => ?_⟩
        rw [wrap_pred h0 (by omega)] at this
        rcases this.2 with h | h
        · omega
        · exact h
      rcases loopR_all (b := spec_l29Ok_b2 a ()) (fun i => (((!(spec_l29Entry (a.Entries.getD i default))) || decide ((spec_l29Find a ((a.Entries.getD i default).Item)) < 0)) || (decide (0 < (i : Int)) && decide (((a.Entries.getD i default).Day) < ((a.Entries.getD ((IntKind.wrap .i64 ((i : Int) - 1)).toNat) default).Day))))) false a.Entries.length (fun j u _ => rfl) with ⟨g2, h2⟩ | ⟨⟨q, hq, g2⟩, h2⟩
      · rw [h2]
        simp only
        have g2 : ∀ i, i < a.Entries.length → spec_l29Entry (a.Entries.getD i default) = true ∧ 0 ≤ spec_l29Find a (a.Entries.getD i default).Item ∧ (0 < i → (a.Entries.getD (i - 1) default).Day ≤ (a.Entries.getD i default).Day) := by
          intro i hi
          have := g2 i hi
          simp only [Bool.or_eq_false_iff, Bool.not_eq_false', Bool.and_eq_false_iff, decide_eq_false_iff_not] at this
          refine ⟨this.1.1, by omega, fun h0 => ?_⟩
          rw [wrap_pred h0 (by omega)] at this
          rcases this.2 with h | h
          · omega
          · omega
        rcases loopR_all (b := spec_l29Ok_b3 a () ()) (fun i => (!(spec_l29Flow a (i : Int)))) false a.Spares.length (fun j u _ => rfl) with ⟨g3, h3⟩ | ⟨⟨q, hq, g3⟩, h3⟩
        · rw [h3]
          simp only [true_iff]
          exact ⟨by omega, by omega, fun i hi => (g1 i hi).1, fun i hi => (g1 i hi).2, fun i hi => (g2 i hi).1, fun i hi => (g2 i hi).2.1, fun i hi => (g2 i hi).2.2, fun i hi => by simpa using g3 i hi⟩
        · rw [h3]
          simp only [Bool.false_eq_true, false_iff]
          intro h
          rw [h.f q hq] at g3
          cases g3
      · rw [h2]
        simp only [Bool.false_eq_true, false_iff]
        intro h
        simp only [Bool.or_eq_true, Bool.not_eq_true', Bool.and_eq_true, decide_eq_true_eq] at g2
        rcases g2 with (g | g) | g
        · rw [h.e1 q hq] at g; cases g
        · have := h.e2 q hq; omega
        · rw [wrap_pred (by omega) (by omega)] at g
          have := h.e3 q hq (by omega)
          omega
    · rw [h1]
      simp only [Bool.false_eq_true, false_iff]
      intro h
      simp only [Bool.or_eq_true, Bool.not_eq_true', Bool.and_eq_true, decide_eq_true_eq] at g1
      rcases g1 with g | g
      · rw [h.s1 q hq] at g; cases g
      · rw [wrap_pred (by omega) (by omega), h.s2 q hq (by omega)] at g
        exact absurd g.2 (by simp)
theorem implOk_iff (a : Store) (hl1 : a.Spares.length < 9223372036854775808) (hl2 : a.Entries.length < 9223372036854775808) : impl_ValidStore a = true ↔ OkS a := by
  unfold impl_ValidStore
  have hflow : ∀ i, slices_ContainsFunc_int64__impl_ValidStore_1 ((impl_Store_sums a ((a.Spares.getD i default).Name)).2) (a.Spares.getD i default) = !(spec_l29Flow a (i : Int)) := by
    intro i
    rw [contains_eq, sums_eq, flow_eq]
    simp only [List.all_map]
    rfl
  rcases loopR_all (b := impl_ValidStore_b1 a) (fun i => (((!(impl_isSpare (a.Spares.getD i default))) || (decide (0 < (i : Int)) && !(Op.bytesLess ((a.Spares.getD ((IntKind.wrap .i64 ((i : Int) - 1)).toNat) default).Name) ((a.Spares.getD i default).Name)))) || (slices_ContainsFunc_int64__impl_ValidStore_1 ((impl_Store_sums a ((a.Spares.getD i default).Name)).2) (a.Spares.getD i default)))) false a.Spares.length (fun j u _ => rfl) with ⟨g1, h1⟩ | ⟨⟨q, hq, g1⟩, h1⟩
  · rw [h1]
    simp only
    have g1 : ∀ i, i < a.Spares.length → spec_l29Item (a.Spares.getD i default) = true ∧ (0 < i → Op.bytesLess (a.Spares.getD (i - 1) default).Name (a.Spares.getD i default).Name = true) ∧ spec_l29Flow a (i : Int) = true := by
      intro i hi
      have := g1 i hi
      rw [isSpare_eq, hflow] at this
      simp only [Bool.or_eq_false_iff, Bool.not_eq_false', Bool.and_eq_false_iff, decide_eq_false_iff_not] at this
      refine ⟨this.1.1, fun h0 => ?_, this.2⟩
      rw [wrap_pred h0 (by omega)] at this
      rcases this.1.2 with h | h
      · omega
      · exact h
    have hfound := fun k => (found_eq a k hl1 (fun i hi => (g1 i hi).2.1)).1
    rcases loopR_all (b := impl_ValidStore_b2 a ()) (fun i => (((!(impl_isEntry (a.Entries.getD i default))) || (!((impl_Store_spareOf a ((a.Entries.getD i default).Item)).2))) || (decide (0 < (i : Int)) && decide (((a.Entries.getD i default).Day) < ((a.Entries.getD ((IntKind.wrap .i64 ((i : Int) - 1)).toNat) default).Day))))) false a.Entries.length (fun j u _ => rfl) with ⟨g2, h2⟩ | ⟨⟨q, hq, g2⟩, h2⟩
    · rw [h2]
      simp only [impl_few]
      have g2 : ∀ i, i < a.Entries.length → spec_l29Entry (a.Entries.getD i default) = true ∧ 0 ≤ spec_l29Find a (a.Entries.getD i default).Item ∧ (0 < i → (a.Entries.getD (i - 1) default).Day ≤ (a.Entries.getD i default).Day) := by
        intro i hi
        have := g2 i hi
        rw [isEntry_eq, hfound] at this
        simp only [Bool.or_eq_false_iff, Bool.not_eq_false', Bool.and_eq_false_iff, decide_eq_false_iff_not, decide_eq_true_eq] at this
        refine ⟨this.1.1, this.1.2, fun h0 => ?_⟩
        rw [wrap_pred h0 (by omega)] at this
        rcases this.2 with h | h
        · omega
        · omega
      simp only [Bool.and_eq_true, decide_eq_true_eq]
      constructor
      · intro h
        exact ⟨by omega, by omega, fun i hi => (g1 i hi).1, fun i hi => (g1 i hi).2.1, fun i hi => (g2 i hi).1, fun i hi => (g2 i hi).2.1, fun i hi => (g2 i hi).2.2, fun i hi => (g1 i hi).2.2⟩
      · intro h
        have := h.l1; have := h.l2
        exact ⟨by omega, by omega⟩
    · rw [h2]
      simp only [Bool.false_eq_true, false_iff]
      intro h
      rw [isEntry_eq, hfound] at g2
      simp only [Bool.or_eq_true, Bool.not_eq_true', Bool.and_eq_true, decide_eq_true_eq, decide_eq_false_iff_not] at g2
      rcases g2 with (g | g) | g
      · rw [h.e1 q hq] at g; cases g
      · have := h.e2 q hq; omega
      · rw [wrap_pred (by omega) (by omega)] at g
        have := h.e3 q hq (by omega)
        omega
  · rw [h1]
    simp only [Bool.false_eq_true, false_iff]
    intro h
    rw [isSpare_eq, hflow] at g1
    simp only [Bool.or_eq_true, Bool.not_eq_true', Bool.and_eq_true, decide_eq_true_eq] at g1
    rcases g1 with (g | g) | g
    · rw [h.s1 q hq] at g; cases g
    · rw [wrap_pred (by omega) (by omega), h.s2 q hq (by omega)] at g
      exact absurd g.2 (by simp)
    · rw [h.f q hq] at g; cases g
theorem validStore_eq (a : Store) (h : bwStore a) : impl_ValidStore a = spec_l29Ok a := by
  apply Bool.eq_iff_iff.2
  rw [specOk_iff, implOk_iff a (And.left (And.left h)) (And.left (And.right h))]
theorem law_ValidStore (a : Store) (ha : bwStore a) : laws_FnExactValidStore a = true := by
  unfold laws_FnExactValidStore spec_ValidStore
  simp only [laws_toStore_id, laws_eqStore_dec, validStore_eq a ha]
  simp
end Go.Ab

namespace Go.Ab
open Go Go.Proofs
theorem impl_Store_fromDay_DD : DOk Try.prog (DD [(65, dP D_impl_Store_sums)]) := DD_cons D_impl_Store_sums_ok.e <| DD_nil _
def impl_Store_fromDay_b1 (a0 : Store) (a1 : (List UInt8)) (a2 : Int) (i1 : Nat) (s1 : List Int) : Except ((List Int)) (List Int) :=
  (bif decide ((((impl_Store_sums a0 a1).1).getD i1 default) ≤ a2) then .ok (s1.set 0 (((impl_Store_sums a0 a1).2).getD i1 default)) else .ok (s1 ++ [(((impl_Store_sums a0 a1).2).getD i1 default)]))
def impl_Store_fromDay (a0 : Store) (a1 : (List UInt8)) (a2 : Int) : (List Int) :=
  (match loopR (impl_Store_fromDay_b1 a0 a1 a2) ((((impl_Store_sums a0 a1).1).length) - 0) 0 [0] with | .error e => e | .ok s1 => s1)
theorem impl_Store_fromDay_den (a0 : Store) (a1 : (List UInt8)) (a2 : Int) (hb0 : bdStore a0) (hb1 : a1.length < 1099511627776) : Den Try.prog 88 [.agg (eStore a0), .str a1, .int .i64 a2] (ownL 2 1 eIi64 (impl_Store_fromDay a0 a1 a2)) := by
  generalize hR : impl_Store_fromDay a0 a1 a2 = r
  unfold impl_Store_fromDay at hR
  refine den_intro G_ok Try.func88 (by kernel_rfl) rfl Try.ntmps88 (by rw [Try.results88]) (by simp) rfl ?_
  intro c hL hc hk
  obtain ⟨hL0, hL1, hL2, _⟩ := hL
  have hw0 : bwStore a0 := Store_lens a0 hL0
  have hw1 : a1.length < 9223372036854775808 := Nat.lt_succ_of_le hL1
  clear hL0 hL1 hL2
  simp only [pars, Nat.zero_add]
  refine AWP.seq ?_
  refine AWP.regS G_ok impl_Store_fromDay_DD hc (by kernel_rfl) (fun K hK => ?_); simp only [ea, gv, sv, D_impl_Store_sums, reduceCtorEq, reduceIte, Nat.reduceBEq, Nat.reduceAdd, Nat.reduceEqDiff, Nat.reduceLT, Nat.reduceLeDiff, Nat.reduceMul, Nat.reduceSub, BEq.rfl, beq_self_eq_true, Int.reduceToNat]
  (refine hK _ ?_)
  clear hK K
  refine AWP.seq ?_
  refine AWP.regS G_ok impl_Store_fromDay_DD hc (by kernel_rfl) (fun K hK => ?_); simp only [ea, gv, sv, D_impl_Store_sums, reduceCtorEq, reduceIte, Nat.reduceBEq, Nat.reduceAdd, Nat.reduceEqDiff, Nat.reduceLT, Nat.reduceLeDiff, Nat.reduceMul, Nat.reduceSub, BEq.rfl, beq_self_eq_true, Int.reduceToNat]
  (refine ⟨by (trivial), hK _ ?_⟩)
  clear hK K
  refine AWP.seq ?_
  refine AWP.regS G_ok impl_Store_fromDay_DD hc (by kernel_rfl) (fun K hK => ?_); simp only [ea, gv, sv, D_impl_Store_sums, reduceCtorEq, reduceIte, Nat.reduceBEq, Nat.reduceAdd, Nat.reduceEqDiff, Nat.reduceLT, Nat.reduceLeDiff, Nat.reduceMul, Nat.reduceSub, BEq.rfl, beq_self_eq_true, Int.reduceToNat]
  (refine hK _ ?_)
  clear hK K
  refine AWP.seq ?_
  refine AWP.seq ?_
  refine AWP.regS G_ok impl_Store_fromDay_DD hc (by kernel_rfl) (fun K hK => ?_); simp only [ea, gv, sv, D_impl_Store_sums, reduceCtorEq, reduceIte, Nat.reduceBEq, Nat.reduceAdd, Nat.reduceEqDiff, Nat.reduceLT, Nat.reduceLeDiff, Nat.reduceMul, Nat.reduceSub, BEq.rfl, beq_self_eq_true, Int.reduceToNat]
  (refine hK _ ?_)
  clear hK K
  refine AWP.block ?_
  generalize hz1 : loopR (impl_Store_fromDay_b1 a0 a1 a2) ((((impl_Store_sums a0 a1).1).length) - 0) 0 [0] = z1 at hR
  refine AWP.range (impl_Store_fromDay_b1 a0 a1 a2) (fun i1 s1 => ⟨[(2, .int .i64 a2), (8, .ref 0 1 0 (((impl_Store_sums a0 a1).2).length)), (9, .ref 1 1 0 s1.length), (19, .ref 2 1 0 (((impl_Store_sums a0 a1).1).length)), (20, .int .i64 (((impl_Store_sums a0 a1).1).length : Int)), (21, .int .i64 (i1 : Int))], [.arr 2 1 ((impl_Store_sums a0 a1).2).length (fun j => eIi64 (((impl_Store_sums a0 a1).2).getD j default)), .arr 2 1 s1.length (fun j => eIi64 (s1.getD j default)), .arr 2 1 ((impl_Store_sums a0 a1).1).length (fun j => eIi64 (((impl_Store_sums a0 a1).1).getD j default))]⟩) (fun i1 s1 => s1.length ≤ [0].length + 1 * i1 ∧ 1 ≤ s1.length) ((((impl_Store_sums a0 a1).1).length)) 0 [0] [2, 3, 1] hz1 (by (omega)) (by (trivial)) (by (simp only [si, ea, gv, sv, hk, reduceCtorEq, reduceIte, Nat.reduceBEq, Nat.reduceAdd, Nat.reduceEqDiff, Nat.reduceLT, Nat.reduceLeDiff, Nat.reduceMul, Nat.reduceSub, BEq.rfl, beq_self_eq_true, Int.reduceToNat]; trivial)) ?_
  clear hz1
  intro i1 s1 hi1 hW1 hz1
  refine AWP.seq ?_
  refine AWP.regS G_ok impl_Store_fromDay_DD hc (by kernel_rfl) (fun K hK => ?_); simp only [ea, gv, sv, D_impl_Store_sums, reduceCtorEq, reduceIte, Nat.reduceBEq, Nat.reduceAdd, Nat.reduceEqDiff, Nat.reduceLT, Nat.reduceLeDiff, Nat.reduceMul, Nat.reduceSub, BEq.rfl, beq_self_eq_true, Int.reduceToNat]
  (refine hK _ ?_)
  clear hK K
  refine AWP.seq ?_
  refine AWP.cond rfl (fun hb => ?_) (fun hb => ?_)
  · have hlt1 : i1 < (((impl_Store_sums a0 a1).1).length) := by ((simp only [ob, ln, bdv, sv] at *; omega))
    rw [loopR_lt hlt1] at hz1; simp only [impl_Store_fromDay_b1] at hz1
    refine AWP.skip ?_
    refine AWP.seq ?_
    refine AWP.block ?_
    refine AWP.seq ?_
    refine AWP.regS G_ok impl_Store_fromDay_DD hc (by kernel_rfl) (fun K hK => ?_); simp only [ea, gv, sv, D_impl_Store_sums, reduceCtorEq, reduceIte, Nat.reduceBEq, Nat.reduceAdd, Nat.reduceEqDiff, Nat.reduceLT, Nat.reduceLeDiff, Nat.reduceMul, Nat.reduceSub, BEq.rfl, beq_self_eq_true, Int.reduceToNat]
    (refine ⟨by (omega), hK _ ?_⟩)
    clear hK K
    refine AWP.seq ?_
    refine AWP.regS G_ok impl_Store_fromDay_DD hc (by kernel_rfl) (fun K hK => ?_); simp only [ea, gv, sv, D_impl_Store_sums, reduceCtorEq, reduceIte, Nat.reduceBEq, Nat.reduceAdd, Nat.reduceEqDiff, Nat.reduceLT, Nat.reduceLeDiff, Nat.reduceMul, Nat.reduceSub, BEq.rfl, beq_self_eq_true, Int.reduceToNat]
    (refine hK _ ?_)
    clear hK K
    refine AWP.cond rfl (fun hb => ?_) (fun hb => ?_)
    · (simp only [hb, cond_true] at hz1)
      refine AWP.regS G_ok impl_Store_fromDay_DD hc (by kernel_rfl) (fun K hK => ?_); simp only [ea, gv, sv, D_impl_Store_sums, reduceCtorEq, reduceIte, Nat.reduceBEq, Nat.reduceAdd, Nat.reduceEqDiff, Nat.reduceLT, Nat.reduceLeDiff, Nat.reduceMul, Nat.reduceSub, BEq.rfl, beq_self_eq_true, Int.reduceToNat]
      (refine ⟨by (((try clear hK K); (repeat' (apply And.intro)) <;> first | trivial | omega | (simp only [ob, ln, bdv, sv] at *; (grind [impl_Store_sums_len])))), hK _ ?_⟩)
      clear hK K
      refine AWP.regS G_ok impl_Store_fromDay_DD hc (by kernel_rfl) (fun K hK => ?_); simp only [ea, gv, sv, D_impl_Store_sums, reduceCtorEq, reduceIte, Nat.reduceBEq, Nat.reduceAdd, Nat.reduceEqDiff, Nat.reduceLT, Nat.reduceLeDiff, Nat.reduceMul, Nat.reduceSub, BEq.rfl, beq_self_eq_true, Int.reduceToNat]
      (refine hK _ ?_)
      clear hK K
      exact ⟨_, [0, 1, 2], hlt1, by ((and_intros <;> simp only [ob, ln] at * <;> omega)), hz1, by (simp only [si, ea, gv, sv, hk, reduceCtorEq, reduceIte, Nat.reduceBEq, Nat.reduceAdd, Nat.reduceEqDiff, Nat.reduceLT, Nat.reduceLeDiff, Nat.reduceMul, Nat.reduceSub, BEq.rfl, beq_self_eq_true, Int.reduceToNat]; (and_intros <;> first | trivial | (simp only [ln]; done) | (simp only [ob, ln, bdv, sv] at *; (grind [impl_Store_sums_len]))))⟩
    · (simp only [hb, cond_false] at hz1)
      refine AWP.regS G_ok impl_Store_fromDay_DD hc (by kernel_rfl) (fun K hK => ?_); simp only [ea, gv, sv, D_impl_Store_sums, reduceCtorEq, reduceIte, Nat.reduceBEq, Nat.reduceAdd, Nat.reduceEqDiff, Nat.reduceLT, Nat.reduceLeDiff, Nat.reduceMul, Nat.reduceSub, BEq.rfl, beq_self_eq_true, Int.reduceToNat]
      (refine ⟨by (((try clear hK K); (repeat' (apply And.intro)) <;> first | omega | (simp only [ob, ln, bdv, sv] at *; (grind [impl_Store_sums_len])))), hK _ ?_⟩)
      clear hK K
      refine AWP.regS G_ok impl_Store_fromDay_DD hc (by kernel_rfl) (fun K hK => ?_); simp only [ea, gv, sv, D_impl_Store_sums, reduceCtorEq, reduceIte, Nat.reduceBEq, Nat.reduceAdd, Nat.reduceEqDiff, Nat.reduceLT, Nat.reduceLeDiff, Nat.reduceMul, Nat.reduceSub, BEq.rfl, beq_self_eq_true, Int.reduceToNat]
      (refine hK _ ?_)
      clear hK K
      exact ⟨_, [0, 4, 2], hlt1, by ((and_intros <;> simp only [ob, ln] at * <;> omega)), hz1, by (simp only [si, ea, gv, sv, hk, reduceCtorEq, reduceIte, Nat.reduceBEq, Nat.reduceAdd, Nat.reduceEqDiff, Nat.reduceLT, Nat.reduceLeDiff, Nat.reduceMul, Nat.reduceSub, BEq.rfl, beq_self_eq_true, Int.reduceToNat]; (and_intros <;> first | trivial | (simp only [ln]; done) | (simp only [ob, ln, bdv, sv] at *; (grind [impl_Store_sums_len])) | (intro j hj; simp only [pw, Bool.cond_eq_ite, Bool.and_eq_true, decide_eq_true_eq]; (try rw [subL_getD _ _ _ _ (by assumption)]); (try rw [clearL_getD _ _ _ _ (by omega)]); (repeat' split) <;> first | rfl | omega)))⟩
  · obtain rfl : i1 = (((impl_Store_sums a0 a1).1).length) := by ((simp only [ob, ln, bdv, sv] at *; omega))
    rw [loopR_ge (Nat.le_refl _)] at hz1; subst hz1; dsimp only at hR
    refine AWP.exit ?_; refine exitTo_here ?_
    refine AWP.seq ?_
    refine AWP.regS G_ok impl_Store_fromDay_DD hc (by kernel_rfl) (fun K hK => ?_); simp only [ea, gv, sv, D_impl_Store_sums, reduceCtorEq, reduceIte, Nat.reduceBEq, Nat.reduceAdd, Nat.reduceEqDiff, Nat.reduceLT, Nat.reduceLeDiff, Nat.reduceMul, Nat.reduceSub, BEq.rfl, beq_self_eq_true, Int.reduceToNat]
    (refine hK _ ?_)
    clear hK K
    refine AWP.ret ?_
    subst hR
    (simp only [en, si, ea, gv, sv, hk, reduceCtorEq, reduceIte, Nat.reduceBEq, Nat.reduceAdd, Nat.reduceEqDiff, Nat.reduceLT, Nat.reduceLeDiff, Nat.reduceMul, Nat.reduceSub, BEq.rfl, beq_self_eq_true, Int.reduceToNat]; (and_intros <;> omega))
def D_impl_Store_fromDay : DF
  | [x0, x1, x2] => some (ownL 2 1 eIi64 (impl_Store_fromDay (rdG dStore x0) (rdS x1) (rdI x2)), false, [wG eStore dStore x0, wS x1, wI .i64 x2, bdStore (rdG dStore x0), (rdS x1).length < 1099511627776])
  | _ => none
def Dz_impl_Store_fromDay : DF
  | [x0, x1, x2] => some (ownL 2 1 eIi64 (impl_Store_fromDay (rdG dStore x0) (rdS x1) (rdI x2)), true, [wG eStore dStore x0, wS x1, wI .i64 x2, bdStore (rdG dStore x0), (rdS x1).length < 1099511627776])
  | _ => none
theorem D_impl_Store_fromDay_ok : OkD Try.prog 88 D_impl_Store_fromDay := by
  intro xs r z ob h ho
  unfold D_impl_Store_fromDay at h
  split at h
  · simp only [Option.some.injEq, Prod.mk.injEq] at h
    obtain ⟨rfl, rfl, rfl⟩ := h
    obtain ⟨h0, h1, h2, hb0, hb1, _⟩ := ho
    exact Den.sim (impl_Store_fromDay_den _ _ _ hb0 hb1) (simOL_cons (wG_sim h0).1 <| simOL_cons (wS_sim h1).1 <| simOL_cons (wI_sim h2).1 <| trivial) (noIdL_cons (wG_sim h0).2 <| noIdL_cons (wS_sim h1).2 <| noIdL_cons (wI_sim h2).2 <| rfl) rfl
  · cases h
theorem Dz_impl_Store_fromDay_ok : OkD Try.prog 88 Dz_impl_Store_fromDay := by
  intro xs r z ob h ho
  unfold Dz_impl_Store_fromDay at h
  split at h
  · simp only [Option.some.injEq, Prod.mk.injEq] at h
    obtain ⟨rfl, rfl, rfl⟩ := h
    obtain ⟨h0, h1, h2, hb0, hb1, _⟩ := ho
    exact Den.sim (impl_Store_fromDay_den _ _ _ hb0 hb1) (simOL_cons (wG_sim h0).1 <| simOL_cons (wS_sim h1).1 <| simOL_cons (wI_sim h2).1 <| trivial) (noIdL_cons (wG_sim h0).2 <| noIdL_cons (wS_sim h1).2 <| noIdL_cons (wI_sim h2).2 <| rfl) rfl
  · cases h
end Go.Ab

namespace Go.Ab
open Go Go.Proofs
theorem impl_Store_fromDay_len (a : Store) (k : List UInt8) (d : Int) : 1 ≤ (impl_Store_fromDay a k d).length := by
  unfold impl_Store_fromDay
  obtain ⟨t, h1, h2⟩ := loopR_total (b := impl_Store_fromDay_b1 a k d) (fun i s => 1 ≤ s.length) (k := (impl_Store_sums a k).1.length - 0) (i := 0) (s := [0]) (by simp) (by
    intro j u _ _ h
    simp only [impl_Store_fromDay_b1]
    cases decide ((impl_Store_sums a k).1.getD j default ≤ d) with
    | true => exact ⟨_, rfl, by simpa using h⟩
    | false => exact ⟨_, rfl, by simp⟩)
  rw [h1]
  exact h2
end Go.Ab

namespace Go.Ab
open Go Go.Proofs
theorem spec_l00Min_DD : DOk Try.prog (DD []) := DD_nil _
def spec_l00Min (a0 : Int) (a1 : Int) : Int :=
  (bif decide (a0 < a1) then a0 else a1)
theorem spec_l00Min_den (a0 : Int) (a1 : Int)  : Den Try.prog 120 [.int .i64 a0, .int .i64 a1] (.int .i64 (spec_l00Min a0 a1)) := by
  generalize hR : spec_l00Min a0 a1 = r
  unfold spec_l00Min at hR
  refine den_intro G_ok Try.func120 (by kernel_rfl) rfl Try.ntmps120 (by rw [Try.results120]) (by simp) rfl ?_
  intro c hL hc hk
  clear hL
  simp only [pars, Nat.zero_add]
  refine AWP.seq ?_
  refine AWP.regS G_ok spec_l00Min_DD hc (by kernel_rfl) (fun K hK => ?_); simp only [ea, gv, sv, reduceCtorEq, reduceIte, Nat.reduceBEq, Nat.reduceAdd, Nat.reduceEqDiff, Nat.reduceLT, Nat.reduceLeDiff, Nat.reduceMul, Nat.reduceSub, BEq.rfl, beq_self_eq_true, Int.reduceToNat]
  (refine hK _ ?_)
  clear hK K
  refine AWP.seq ?_
  refine AWP.seq ?_
  refine AWP.regS G_ok spec_l00Min_DD hc (by kernel_rfl) (fun K hK => ?_); simp only [ea, gv, sv, reduceCtorEq, reduceIte, Nat.reduceBEq, Nat.reduceAdd, Nat.reduceEqDiff, Nat.reduceLT, Nat.reduceLeDiff, Nat.reduceMul, Nat.reduceSub, BEq.rfl, beq_self_eq_true, Int.reduceToNat]
  (refine hK _ ?_)
  clear hK K
  refine AWP.cond rfl (fun hb => ?_) (fun hb => ?_)
  · (simp only [hb, cond_true] at hR)
    refine AWP.seq ?_
    refine AWP.regS G_ok spec_l00Min_DD hc (by kernel_rfl) (fun K hK => ?_); simp only [ea, gv, sv, reduceCtorEq, reduceIte, Nat.reduceBEq, Nat.reduceAdd, Nat.reduceEqDiff, Nat.reduceLT, Nat.reduceLeDiff, Nat.reduceMul, Nat.reduceSub, BEq.rfl, beq_self_eq_true, Int.reduceToNat]
    (refine hK _ ?_)
    clear hK K
    refine AWP.ret ?_
    subst hR
    (simp only [en, si, ea, gv, sv, hk, reduceCtorEq, reduceIte, Nat.reduceBEq, Nat.reduceAdd, Nat.reduceEqDiff, Nat.reduceLT, Nat.reduceLeDiff, Nat.reduceMul, Nat.reduceSub, BEq.rfl, beq_self_eq_true, Int.reduceToNat]; done)
  · (simp only [hb, cond_false] at hR)
    refine AWP.skip ?_
    refine AWP.seq ?_
    refine AWP.regS G_ok spec_l00Min_DD hc (by kernel_rfl) (fun K hK => ?_); simp only [ea, gv, sv, reduceCtorEq, reduceIte, Nat.reduceBEq, Nat.reduceAdd, Nat.reduceEqDiff, Nat.reduceLT, Nat.reduceLeDiff, Nat.reduceMul, Nat.reduceSub, BEq.rfl, beq_self_eq_true, Int.reduceToNat]
    (refine hK _ ?_)
    clear hK K
    refine AWP.ret ?_
    subst hR
    (simp only [en, si, ea, gv, sv, hk, reduceCtorEq, reduceIte, Nat.reduceBEq, Nat.reduceAdd, Nat.reduceEqDiff, Nat.reduceLT, Nat.reduceLeDiff, Nat.reduceMul, Nat.reduceSub, BEq.rfl, beq_self_eq_true, Int.reduceToNat]; done)
def D_spec_l00Min : DF
  | [x0, x1] => some (.int .i64 (spec_l00Min (rdI x0) (rdI x1)), false, [wI .i64 x0, wI .i64 x1])
  | _ => none
theorem D_spec_l00Min_ok : OkD Try.prog 120 D_spec_l00Min := by
  intro xs r z ob h ho
  unfold D_spec_l00Min at h
  split at h
  · simp only [Option.some.injEq, Prod.mk.injEq] at h
    obtain ⟨rfl, rfl, rfl⟩ := h
    obtain ⟨h0, h1, _⟩ := ho
    exact Den.sim (spec_l00Min_den _ _ ) (simOL_cons (wI_sim h0).1 <| simOL_cons (wI_sim h1).1 <| trivial) (noIdL_cons (wI_sim h0).2 <| noIdL_cons (wI_sim h1).2 <| rfl) rfl
  · cases h
end Go.Ab

namespace Go.Ab
open Go Go.Proofs
theorem spec_l00Max_DD : DOk Try.prog (DD []) := DD_nil _
def spec_l00Max (a0 : Int) (a1 : Int) : Int :=
  (bif decide (a1 < a0) then a0 else a1)
theorem spec_l00Max_den (a0 : Int) (a1 : Int)  : Den Try.prog 121 [.int .i64 a0, .int .i64 a1] (.int .i64 (spec_l00Max a0 a1)) := by
  generalize hR : spec_l00Max a0 a1 = r
  unfold spec_l00Max at hR
  refine den_intro G_ok Try.func121 (by kernel_rfl) rfl Try.ntmps121 (by rw [Try.results121]) (by simp) rfl ?_
  intro c hL hc hk
  clear hL
  simp only [pars, Nat.zero_add]
  refine AWP.seq ?_
  refine AWP.regS G_ok spec_l00Max_DD hc (by kernel_rfl) (fun K hK => ?_); simp only [ea, gv, sv, reduceCtorEq, reduceIte, Nat.reduceBEq, Nat.reduceAdd, Nat.reduceEqDiff, Nat.reduceLT, Nat.reduceLeDiff, Nat.reduceMul, Nat.reduceSub, BEq.rfl, beq_self_eq_true, Int.reduceToNat]
  (refine hK _ ?_)
  clear hK K
  refine AWP.seq ?_
  refine AWP.seq ?_
  refine AWP.regS G_ok spec_l00Max_DD hc (by kernel_rfl) (fun K hK => ?_); simp only [ea, gv, sv, reduceCtorEq, reduceIte, Nat.reduceBEq, Nat.reduceAdd, Nat.reduceEqDiff, Nat.reduceLT, Nat.reduceLeDiff, Nat.reduceMul, Nat.reduceSub, BEq.rfl, beq_self_eq_true, Int.reduceToNat]
  (refine hK _ ?_)
  clear hK K
  refine AWP.cond rfl (fun hb => ?_) (fun hb => ?_)
  · (simp only [hb, cond_true] at hR)
    refine AWP.seq ?_
    refine AWP.regS G_ok spec_l00Max_DD hc (by kernel_rfl) (fun K hK => ?_); simp only [ea, gv, sv, reduceCtorEq, reduceIte, Nat.reduceBEq, Nat.reduceAdd, Nat.reduceEqDiff, Nat.reduceLT, Nat.reduceLeDiff, Nat.reduceMul, Nat.reduceSub, BEq.rfl, beq_self_eq_true, Int.reduceToNat]
    (refine hK _ ?_)
    clear hK K
    refine AWP.ret ?_
    subst hR
    (simp only [en, si, ea, gv, sv, hk, reduceCtorEq, reduceIte, Nat.reduceBEq, Nat.reduceAdd, Nat.reduceEqDiff, Nat.reduceLT, Nat.reduceLeDiff, Nat.reduceMul, Nat.reduceSub, BEq.rfl, beq_self_eq_true, Int.reduceToNat]; done)
  · (simp only [hb, cond_false] at hR)
    refine AWP.skip ?_
    refine AWP.seq ?_
    refine AWP.regS G_ok spec_l00Max_DD hc (by kernel_rfl) (fun K hK => ?_); simp only [ea, gv, sv, reduceCtorEq, reduceIte, Nat.reduceBEq, Nat.reduceAdd, Nat.reduceEqDiff, Nat.reduceLT, Nat.reduceLeDiff, Nat.reduceMul, Nat.reduceSub, BEq.rfl, beq_self_eq_true, Int.reduceToNat]
    (refine hK _ ?_)
    clear hK K
    refine AWP.ret ?_
    subst hR
    (simp only [en, si, ea, gv, sv, hk, reduceCtorEq, reduceIte, Nat.reduceBEq, Nat.reduceAdd, Nat.reduceEqDiff, Nat.reduceLT, Nat.reduceLeDiff, Nat.reduceMul, Nat.reduceSub, BEq.rfl, beq_self_eq_true, Int.reduceToNat]; done)
def D_spec_l00Max : DF
  | [x0, x1] => some (.int .i64 (spec_l00Max (rdI x0) (rdI x1)), false, [wI .i64 x0, wI .i64 x1])
  | _ => none
theorem D_spec_l00Max_ok : OkD Try.prog 121 D_spec_l00Max := by
  intro xs r z ob h ho
  unfold D_spec_l00Max at h
  split at h
  · simp only [Option.some.injEq, Prod.mk.injEq] at h
    obtain ⟨rfl, rfl, rfl⟩ := h
    obtain ⟨h0, h1, _⟩ := ho
    exact Den.sim (spec_l00Max_den _ _ ) (simOL_cons (wI_sim h0).1 <| simOL_cons (wI_sim h1).1 <| trivial) (noIdL_cons (wI_sim h0).2 <| noIdL_cons (wI_sim h1).2 <| rfl) rfl
  · cases h
end Go.Ab
