/- A part of a proof: walks of functions and lemmas of our own. No conditions. -/
import Derived.Test.YtpakbdamggpneaaGreatDoorTAk
import Derived.Test.YtpakbdamggpneaaGreatDoorTAi
import Derived.Test.YtpakbdamggpneaaGreatDoorTAm
import Derived.Test.YtpakbdamggpneaaGreatDoorTAl
set_option linter.unusedSectionVars false
set_option linter.unusedVariables false
set_option linter.unusedSimpArgs false
namespace Go.Ab
open Go Go.Proofs
theorem spec_l00Src_next_DD : DOk Tryz.prog (DD []) := DD_nil _
def spec_l00Src_next (a0 : l00Src) : Int × l00Src :=
  (bif decide (a0.at_ < (a0.code.length : Int)) then (bif decide ((IntKind.wrap .i64 (a0.at_ + 1)) ≤ (a0.code.length : Int)) then (IntKind.wrap .i64 (a0.code.getD ((a0.at_).toNat) default), { code := a0.code, at_ := IntKind.wrap .i64 (a0.at_ + 1), seed := IntKind.wrap .u64 ((IntKind.wrap .u64 ((IntKind.wrap .u64 (a0.seed * 6364136223846793005)) + (IntKind.wrap .u64 (IntKind.wrap .i64 (a0.code.getD ((a0.at_).toNat) default))))) + 1442695040888963407) : l00Src }) else (IntKind.wrap .i64 (IntKind.wrap .u64 (BitVec.ofInt (IntKind.bits .u64) ((IntKind.wrap .u64 ((IntKind.wrap .u64 ((IntKind.wrap .u64 (a0.seed * 6364136223846793005)) + (IntKind.wrap .u64 (IntKind.wrap .i64 (a0.code.getD ((a0.at_).toNat) default))))) + 1442695040888963407)).fdiv (2 ^ (Min.min 40 (IntKind.bits .u64)))) &&& BitVec.ofInt (IntKind.bits .u64) 255).toNat), { code := a0.code, at_ := IntKind.wrap .i64 (a0.at_ + 1), seed := IntKind.wrap .u64 ((IntKind.wrap .u64 ((IntKind.wrap .u64 (a0.seed * 6364136223846793005)) + (IntKind.wrap .u64 (IntKind.wrap .i64 (a0.code.getD ((a0.at_).toNat) default))))) + 1442695040888963407) : l00Src })) else (bif decide ((IntKind.wrap .i64 (a0.at_ + 1)) ≤ (a0.code.length : Int)) then (0, { code := a0.code, at_ := IntKind.wrap .i64 (a0.at_ + 1), seed := IntKind.wrap .u64 ((IntKind.wrap .u64 ((IntKind.wrap .u64 (a0.seed * 6364136223846793005)) + (IntKind.wrap .u64 0))) + 1442695040888963407) : l00Src }) else (IntKind.wrap .i64 (IntKind.wrap .u64 (BitVec.ofInt (IntKind.bits .u64) ((IntKind.wrap .u64 ((IntKind.wrap .u64 ((IntKind.wrap .u64 (a0.seed * 6364136223846793005)) + (IntKind.wrap .u64 0))) + 1442695040888963407)).fdiv (2 ^ (Min.min 40 (IntKind.bits .u64)))) &&& BitVec.ofInt (IntKind.bits .u64) 255).toNat), { code := a0.code, at_ := IntKind.wrap .i64 (a0.at_ + 1), seed := IntKind.wrap .u64 ((IntKind.wrap .u64 ((IntKind.wrap .u64 (a0.seed * 6364136223846793005)) + (IntKind.wrap .u64 0))) + 1442695040888963407) : l00Src })))
theorem spec_l00Src_next_den (a0 : l00Src) (hp0 : SrcOk 1000000 a0) : DenM Tryz.prog 99 [.op (el00Src a0)] (.int .i64 ((spec_l00Src_next a0).1)) [(.op (el00Src ((spec_l00Src_next a0).2)))] := by
  generalize hR : spec_l00Src_next a0 = r
  unfold spec_l00Src_next at hR
  refine den_introM (gb := [true]) G_ok Tryz.func99 (by kernel_rfl) rfl Tryz.ntmps99 (by rw [Tryz.results99]) (by simp) ?_
  intro c hL hc hk
  obtain ⟨hL0, _⟩ := hL
  have hw0 : bwl00Src a0 := l00Src_lens a0 hL0
  clear hL0
  simp only [adEL, adE, adRL, adR, ownL, encL, sv, List.nil_append, List.append_nil, List.cons_append, List.length_cons, List.length_nil, pars, Nat.zero_add, Nat.reduceAdd] at hk ⊢
  have hp1 := hp0.lo
  have hp2 := hp0.hi
  refine AWP.seq ?_
  refine AWP.regS G_ok spec_l00Src_next_DD hc (by kernel_rfl) (fun K hK => ?_); simp only [ea, gv, sv, reduceCtorEq, reduceIte, Nat.reduceBEq, Nat.reduceAdd, Nat.reduceEqDiff, Nat.reduceLT, Nat.reduceLeDiff, Nat.reduceMul, Nat.reduceSub, BEq.rfl, beq_self_eq_true, Int.reduceToNat]
  (refine hK _ ?_)
  clear hK K
  refine AWP.seq ?_
  refine AWP.regS G_ok spec_l00Src_next_DD hc (by kernel_rfl) (fun K hK => ?_); simp only [ea, gv, sv, reduceCtorEq, reduceIte, Nat.reduceBEq, Nat.reduceAdd, Nat.reduceEqDiff, Nat.reduceLT, Nat.reduceLeDiff, Nat.reduceMul, Nat.reduceSub, BEq.rfl, beq_self_eq_true, Int.reduceToNat]
  (refine hK _ ?_)
  clear hK K
  refine AWP.seq ?_
  refine AWP.seq ?_
  refine AWP.regD mixed G_ok spec_l00Src_next_DD hc 10 (by kernel_rfl) (by kernel_rfl) (fun K hK => ?_); simp only [ea, gv, sv, reduceCtorEq, reduceIte, Nat.reduceBEq, Nat.reduceAdd, Nat.reduceEqDiff, Nat.reduceLT, Nat.reduceLeDiff, Nat.reduceMul, Nat.reduceSub, BEq.rfl, beq_self_eq_true, Int.reduceToNat]
  (refine hK _ ?_)
  clear hK K
  refine AWP.cond rfl (fun hb => ?_) (fun hb => ?_)
  · (simp only [hb, cond_true] at hR)
    refine AWP.regD mixed G_ok spec_l00Src_next_DD hc 11 (by kernel_rfl) (by kernel_rfl) (fun K hK => ?_); simp only [ea, gv, sv, reduceCtorEq, reduceIte, Nat.reduceBEq, Nat.reduceAdd, Nat.reduceEqDiff, Nat.reduceLT, Nat.reduceLeDiff, Nat.reduceMul, Nat.reduceSub, BEq.rfl, beq_self_eq_true, Int.reduceToNat]
    (refine ⟨by ((simp only [ob, ln, bdv, sv] at *; omega)), hK _ ?_⟩)
    clear hK K
    refine AWP.seq ?_
    refine AWP.regS G_ok spec_l00Src_next_DD hc (by kernel_rfl) (fun K hK => ?_); simp only [ea, gv, sv, reduceCtorEq, reduceIte, Nat.reduceBEq, Nat.reduceAdd, Nat.reduceEqDiff, Nat.reduceLT, Nat.reduceLeDiff, Nat.reduceMul, Nat.reduceSub, BEq.rfl, beq_self_eq_true, Int.reduceToNat]
    (refine hK _ ?_)
    clear hK K
    refine AWP.seq ?_
    refine AWP.regS G_ok spec_l00Src_next_DD hc (by kernel_rfl) (fun K hK => ?_); simp only [ea, gv, sv, reduceCtorEq, reduceIte, Nat.reduceBEq, Nat.reduceAdd, Nat.reduceEqDiff, Nat.reduceLT, Nat.reduceLeDiff, Nat.reduceMul, Nat.reduceSub, BEq.rfl, beq_self_eq_true, Int.reduceToNat]
    (refine hK _ ?_)
    clear hK K
    refine AWP.seq ?_
    refine AWP.seq ?_
    refine AWP.regD mixed G_ok spec_l00Src_next_DD hc 10 (by kernel_rfl) (by kernel_rfl) (fun K hK => ?_); simp only [ea, gv, sv, reduceCtorEq, reduceIte, Nat.reduceBEq, Nat.reduceAdd, Nat.reduceEqDiff, Nat.reduceLT, Nat.reduceLeDiff, Nat.reduceMul, Nat.reduceSub, BEq.rfl, beq_self_eq_true, Int.reduceToNat]
    (refine hK _ ?_)
    clear hK K
    refine AWP.cond rfl (fun hb => ?_) (fun hb => ?_)
    · (simp only [hb, cond_true] at hR)
      refine AWP.seq ?_
      refine AWP.regS G_ok spec_l00Src_next_DD hc (by kernel_rfl) (fun K hK => ?_); simp only [ea, gv, sv, reduceCtorEq, reduceIte, Nat.reduceBEq, Nat.reduceAdd, Nat.reduceEqDiff, Nat.reduceLT, Nat.reduceLeDiff, Nat.reduceMul, Nat.reduceSub, BEq.rfl, beq_self_eq_true, Int.reduceToNat]
      (refine hK _ ?_)
      clear hK K
      refine AWP.ret ?_
      subst hR
      (simp only [en, si, ea, gv, sv, hk, reduceCtorEq, reduceIte, Nat.reduceBEq, Nat.reduceAdd, Nat.reduceEqDiff, Nat.reduceLT, Nat.reduceLeDiff, Nat.reduceMul, Nat.reduceSub, BEq.rfl, beq_self_eq_true, Int.reduceToNat]; done)
    · (simp only [hb, cond_false] at hR)
      refine AWP.skip ?_
      refine AWP.seq ?_
      refine AWP.regS G_ok spec_l00Src_next_DD hc (by kernel_rfl) (fun K hK => ?_); simp only [ea, gv, sv, reduceCtorEq, reduceIte, Nat.reduceBEq, Nat.reduceAdd, Nat.reduceEqDiff, Nat.reduceLT, Nat.reduceLeDiff, Nat.reduceMul, Nat.reduceSub, BEq.rfl, beq_self_eq_true, Int.reduceToNat]
      (refine ⟨by (trivial), hK _ ?_⟩)
      clear hK K
      refine AWP.ret ?_
      subst hR
      (simp only [en, si, ea, gv, sv, hk, reduceCtorEq, reduceIte, Nat.reduceBEq, Nat.reduceAdd, Nat.reduceEqDiff, Nat.reduceLT, Nat.reduceLeDiff, Nat.reduceMul, Nat.reduceSub, BEq.rfl, beq_self_eq_true, Int.reduceToNat]; done)
  · (simp only [hb, cond_false] at hR)
    refine AWP.skip ?_
    refine AWP.seq ?_
    refine AWP.regS G_ok spec_l00Src_next_DD hc (by kernel_rfl) (fun K hK => ?_); simp only [ea, gv, sv, reduceCtorEq, reduceIte, Nat.reduceBEq, Nat.reduceAdd, Nat.reduceEqDiff, Nat.reduceLT, Nat.reduceLeDiff, Nat.reduceMul, Nat.reduceSub, BEq.rfl, beq_self_eq_true, Int.reduceToNat]
    (refine hK _ ?_)
    clear hK K
    refine AWP.seq ?_
    refine AWP.regS G_ok spec_l00Src_next_DD hc (by kernel_rfl) (fun K hK => ?_); simp only [ea, gv, sv, reduceCtorEq, reduceIte, Nat.reduceBEq, Nat.reduceAdd, Nat.reduceEqDiff, Nat.reduceLT, Nat.reduceLeDiff, Nat.reduceMul, Nat.reduceSub, BEq.rfl, beq_self_eq_true, Int.reduceToNat]
    (refine hK _ ?_)
    clear hK K
    refine AWP.seq ?_
    refine AWP.seq ?_
    refine AWP.regD mixed G_ok spec_l00Src_next_DD hc 10 (by kernel_rfl) (by kernel_rfl) (fun K hK => ?_); simp only [ea, gv, sv, reduceCtorEq, reduceIte, Nat.reduceBEq, Nat.reduceAdd, Nat.reduceEqDiff, Nat.reduceLT, Nat.reduceLeDiff, Nat.reduceMul, Nat.reduceSub, BEq.rfl, beq_self_eq_true, Int.reduceToNat]
    (refine hK _ ?_)
    clear hK K
    refine AWP.cond rfl (fun hb => ?_) (fun hb => ?_)
    · (simp only [hb, cond_true] at hR)
      refine AWP.seq ?_
      refine AWP.regS G_ok spec_l00Src_next_DD hc (by kernel_rfl) (fun K hK => ?_); simp only [ea, gv, sv, reduceCtorEq, reduceIte, Nat.reduceBEq, Nat.reduceAdd, Nat.reduceEqDiff, Nat.reduceLT, Nat.reduceLeDiff, Nat.reduceMul, Nat.reduceSub, BEq.rfl, beq_self_eq_true, Int.reduceToNat]
      (refine hK _ ?_)
      clear hK K
      refine AWP.ret ?_
      subst hR
      (simp only [en, si, ea, gv, sv, hk, reduceCtorEq, reduceIte, Nat.reduceBEq, Nat.reduceAdd, Nat.reduceEqDiff, Nat.reduceLT, Nat.reduceLeDiff, Nat.reduceMul, Nat.reduceSub, BEq.rfl, beq_self_eq_true, Int.reduceToNat]; done)
    · (simp only [hb, cond_false] at hR)
      refine AWP.skip ?_
      refine AWP.seq ?_
      refine AWP.regS G_ok spec_l00Src_next_DD hc (by kernel_rfl) (fun K hK => ?_); simp only [ea, gv, sv, reduceCtorEq, reduceIte, Nat.reduceBEq, Nat.reduceAdd, Nat.reduceEqDiff, Nat.reduceLT, Nat.reduceLeDiff, Nat.reduceMul, Nat.reduceSub, BEq.rfl, beq_self_eq_true, Int.reduceToNat]
      (refine ⟨by (trivial), hK _ ?_⟩)
      clear hK K
      refine AWP.ret ?_
      subst hR
      (simp only [en, si, ea, gv, sv, hk, reduceCtorEq, reduceIte, Nat.reduceBEq, Nat.reduceAdd, Nat.reduceEqDiff, Nat.reduceLT, Nat.reduceLeDiff, Nat.reduceMul, Nat.reduceSub, BEq.rfl, beq_self_eq_true, Int.reduceToNat]; done)
def D_spec_l00Src_next : List AV → Option (AV × List AV × List Prop)
  | [x0] => some (.int .i64 ((spec_l00Src_next (rdQ dl00Src x0)).1), [(.op (el00Src ((spec_l00Src_next (rdQ dl00Src x0)).2)))], [wQ el00Src dl00Src x0, SrcOk 1000000 (rdQ dl00Src x0)])
  | _ => none
theorem D_spec_l00Src_next_ok : OkM Tryz.prog 99 D_spec_l00Src_next := by
  intro xs r outs ob h ho
  unfold D_spec_l00Src_next at h
  split at h
  · simp only [Option.some.injEq, Prod.mk.injEq] at h
    obtain ⟨rfl, rfl, rfl⟩ := h
    obtain ⟨h0, hp0, _⟩ := ho
    exact DenM.sim (spec_l00Src_next_den _ hp0) (simOL_cons (wQ_sim h0) <| trivial)
  · cases h
end Go.Ab

namespace Go.Ab
open Go Go.Proofs
theorem next_val {n : Int} {s : l00Src} (h : SrcOk n s) (hn : n ≤ 4000000000) : 0 ≤ (spec_l00Src_next s).1 ∧ (spec_l00Src_next s).1 ≤ 255 := by
  have h1 := h.lo
  have h2 := h.hi
  have hb : 0 ≤ s.code.getD s.at_.toNat default ∧ s.code.getD s.at_.toNat default ≤ 255 := bd_getD (p := fun v => 0 ≤ v ∧ v ≤ 255) h.by_ (by decide) _
  have hand : ∀ x : Int, 0 ≤ ((BitVec.ofInt (IntKind.bits .u64) x &&& BitVec.ofInt (IntKind.bits .u64) 255).toNat : Int) ∧ ((BitVec.ofInt (IntKind.bits .u64) x &&& BitVec.ofInt (IntKind.bits .u64) 255).toNat : Int) ≤ 255 := by
    intro x
    refine ⟨Int.natCast_nonneg _, ?_⟩
    rw [BitVec.toNat_and]
    have := Nat.and_le_right (n := (BitVec.ofInt (IntKind.bits .u64) x).toNat) (m := (BitVec.ofInt (IntKind.bits .u64) 255).toNat)
    have e : (BitVec.ofInt (IntKind.bits .u64) 255).toNat = 255 := by decide
    omega
  have hw : ∀ y : Int, 0 ≤ y → y ≤ 255 → IntKind.wrap .i64 (IntKind.wrap .u64 y) = y := by
    intro y _ _
    have : IntKind.wrap .u64 y = y := by
      simp [IntKind.wrap, IntKind.bits, IntKind.signed]; omega
    rw [this, IntKind.wrap_i64]; omega
  unfold spec_l00Src_next
  simp only [Bool.cond_eq_ite]
  repeat' split
  all_goals first
    | (simp only [IntKind.wrap_i64]; omega)
    | (rw [hw _ (hand _).1 (hand _).2]; exact hand _)
theorem SrcOk.next {n : Int} {s : l00Src} (h : SrcOk n s) (hn : n ≤ 4000000000) : SrcOk (n + 1) (spec_l00Src_next s).2 := by
  have h1 := h.lo
  have h2 := h.hi
  unfold spec_l00Src_next
  simp only [Bool.cond_eq_ite]
  repeat' split
  all_goals exact ⟨by simp only [IntKind.wrap_i64]; omega, by simp only [IntKind.wrap_i64]; omega, h.by_⟩
end Go.Ab

namespace Go.Ab
open Go Go.Proofs
theorem spec_l00Src_pick_DD : DOk Tryz.prog (DD [(99, dM [true] D_spec_l00Src_next)]) := DD_cons D_spec_l00Src_next_ok.e <| DD_nil _
def spec_l00Src_pick (a0 : l00Src) (a1 : Int) : Int × l00Src :=
  (bif decide (a1 ≤ 1) then (0, a0) else (bif decide (200 < a1) then ((IntKind.wrap .i64 ((IntKind.wrap .i64 (((spec_l00Src_next a0).1) * 256)) + ((spec_l00Src_next ((spec_l00Src_next a0).2)).1))).tmod a1, (spec_l00Src_next ((spec_l00Src_next a0).2)).2) else (((spec_l00Src_next a0).1).tmod a1, (spec_l00Src_next a0).2)))
theorem spec_l00Src_pick_den (a0 : l00Src) (a1 : Int) (hp0 : SrcOk 900000 a0) : DenM Tryz.prog 59 [.op (el00Src a0), .int .i64 a1] (.int .i64 ((spec_l00Src_pick a0 a1).1)) [(.op (el00Src ((spec_l00Src_pick a0 a1).2))), .any] := by
  generalize hR : spec_l00Src_pick a0 a1 = r
  unfold spec_l00Src_pick at hR
  refine den_introM (gb := [true, false]) G_ok Tryz.func59 (by kernel_rfl) rfl Tryz.ntmps59 (by rw [Tryz.results59]) (by simp) ?_
  intro c hL hc hk
  obtain ⟨hL0, hL1, _⟩ := hL
  have hw0 : bwl00Src a0 := l00Src_lens a0 hL0
  clear hL0 hL1
  simp only [adEL, adE, adRL, adR, ownL, encL, sv, List.nil_append, List.append_nil, List.cons_append, List.length_cons, List.length_nil, pars, Nat.zero_add, Nat.reduceAdd] at hk ⊢
  refine AWP.seq ?_
  refine AWP.regS G_ok spec_l00Src_pick_DD hc (by kernel_rfl) (fun K hK => ?_); simp only [ea, absV, absVL, gv, sv, D_spec_l00Src_next, reduceCtorEq, reduceIte, Nat.reduceBEq, Nat.reduceAdd, Nat.reduceEqDiff, Nat.reduceLT, Nat.reduceLeDiff, Nat.reduceMul, Nat.reduceSub, BEq.rfl, beq_self_eq_true, Int.reduceToNat]
  (refine hK _ ?_)
  clear hK K
  refine AWP.seq ?_
  refine AWP.seq ?_
  refine AWP.regS G_ok spec_l00Src_pick_DD hc (by kernel_rfl) (fun K hK => ?_); simp only [ea, absV, absVL, gv, sv, D_spec_l00Src_next, reduceCtorEq, reduceIte, Nat.reduceBEq, Nat.reduceAdd, Nat.reduceEqDiff, Nat.reduceLT, Nat.reduceLeDiff, Nat.reduceMul, Nat.reduceSub, BEq.rfl, beq_self_eq_true, Int.reduceToNat]
  (refine hK _ ?_)
  clear hK K
  refine AWP.cond rfl (fun hb => ?_) (fun hb => ?_)
  · (simp only [hb, cond_true] at hR)
    refine AWP.seq ?_
    refine AWP.regS G_ok spec_l00Src_pick_DD hc (by kernel_rfl) (fun K hK => ?_); simp only [ea, absV, absVL, gv, sv, D_spec_l00Src_next, reduceCtorEq, reduceIte, Nat.reduceBEq, Nat.reduceAdd, Nat.reduceEqDiff, Nat.reduceLT, Nat.reduceLeDiff, Nat.reduceMul, Nat.reduceSub, BEq.rfl, beq_self_eq_true, Int.reduceToNat]
    (refine hK _ ?_)
    clear hK K
    refine AWP.ret ?_
    subst hR
    (simp only [en, si, ea, gv, sv, hk, reduceCtorEq, reduceIte, Nat.reduceBEq, Nat.reduceAdd, Nat.reduceEqDiff, Nat.reduceLT, Nat.reduceLeDiff, Nat.reduceMul, Nat.reduceSub, BEq.rfl, beq_self_eq_true, Int.reduceToNat]; done)
  · (simp only [hb, cond_false] at hR)
    refine AWP.skip ?_
    refine AWP.seq ?_
    refine AWP.regS G_ok spec_l00Src_pick_DD hc (by kernel_rfl) (fun K hK => ?_); simp only [ea, absV, absVL, gv, sv, D_spec_l00Src_next, reduceCtorEq, reduceIte, Nat.reduceBEq, Nat.reduceAdd, Nat.reduceEqDiff, Nat.reduceLT, Nat.reduceLeDiff, Nat.reduceMul, Nat.reduceSub, BEq.rfl, beq_self_eq_true, Int.reduceToNat]
    (refine ⟨by (((try clear hK K); (repeat' (apply And.intro)) <;> first | trivial | (refine SrcOk.mono (by repeat' assumption) (by omega)))), hK _ ?_⟩)
    clear hK K
    refine AWP.seq ?_
    refine AWP.seq ?_
    refine AWP.regS G_ok spec_l00Src_pick_DD hc (by kernel_rfl) (fun K hK => ?_); simp only [ea, absV, absVL, gv, sv, D_spec_l00Src_next, reduceCtorEq, reduceIte, Nat.reduceBEq, Nat.reduceAdd, Nat.reduceEqDiff, Nat.reduceLT, Nat.reduceLeDiff, Nat.reduceMul, Nat.reduceSub, BEq.rfl, beq_self_eq_true, Int.reduceToNat]
    (refine hK _ ?_)
    clear hK K
    refine AWP.cond rfl (fun hb => ?_) (fun hb => ?_)
    · (simp only [hb, cond_true] at hR)
      refine AWP.regS G_ok spec_l00Src_pick_DD hc (by kernel_rfl) (fun K hK => ?_); simp only [ea, absV, absVL, gv, sv, D_spec_l00Src_next, reduceCtorEq, reduceIte, Nat.reduceBEq, Nat.reduceAdd, Nat.reduceEqDiff, Nat.reduceLT, Nat.reduceLeDiff, Nat.reduceMul, Nat.reduceSub, BEq.rfl, beq_self_eq_true, Int.reduceToNat]
      (refine ⟨by (((try clear hK K); (repeat' (apply And.intro)) <;> first | trivial | (refine SrcOk.mono (by repeat' first | assumption | apply SrcOk.next | omega) (by omega)))), hK _ ?_⟩)
      clear hK K
      refine AWP.seq ?_
      refine AWP.regS G_ok spec_l00Src_pick_DD hc (by kernel_rfl) (fun K hK => ?_); simp only [ea, absV, absVL, gv, sv, D_spec_l00Src_next, reduceCtorEq, reduceIte, Nat.reduceBEq, Nat.reduceAdd, Nat.reduceEqDiff, Nat.reduceLT, Nat.reduceLeDiff, Nat.reduceMul, Nat.reduceSub, BEq.rfl, beq_self_eq_true, Int.reduceToNat]
      (refine ⟨by ((simp only [ob, ln, bdv, sv] at *; omega)), hK _ ?_⟩)
      clear hK K
      refine AWP.ret ?_
      subst hR
      (simp only [en, si, ea, gv, sv, hk, reduceCtorEq, reduceIte, Nat.reduceBEq, Nat.reduceAdd, Nat.reduceEqDiff, Nat.reduceLT, Nat.reduceLeDiff, Nat.reduceMul, Nat.reduceSub, BEq.rfl, beq_self_eq_true, Int.reduceToNat]; done)
    · (simp only [hb, cond_false] at hR)
      refine AWP.skip ?_
      refine AWP.seq ?_
      refine AWP.regS G_ok spec_l00Src_pick_DD hc (by kernel_rfl) (fun K hK => ?_); simp only [ea, absV, absVL, gv, sv, D_spec_l00Src_next, reduceCtorEq, reduceIte, Nat.reduceBEq, Nat.reduceAdd, Nat.reduceEqDiff, Nat.reduceLT, Nat.reduceLeDiff, Nat.reduceMul, Nat.reduceSub, BEq.rfl, beq_self_eq_true, Int.reduceToNat]
      (refine ⟨by ((simp only [ob, ln, bdv, sv] at *; omega)), hK _ ?_⟩)
      clear hK K
      refine AWP.ret ?_
      subst hR
      (simp only [en, si, ea, gv, sv, hk, reduceCtorEq, reduceIte, Nat.reduceBEq, Nat.reduceAdd, Nat.reduceEqDiff, Nat.reduceLT, Nat.reduceLeDiff, Nat.reduceMul, Nat.reduceSub, BEq.rfl, beq_self_eq_true, Int.reduceToNat]; done)
def D_spec_l00Src_pick : List AV → Option (AV × List AV × List Prop)
  | [x0, x1] => some (.int .i64 ((spec_l00Src_pick (rdQ dl00Src x0) (rdI x1)).1), [(.op (el00Src ((spec_l00Src_pick (rdQ dl00Src x0) (rdI x1)).2))), .any], [wQ el00Src dl00Src x0, wI .i64 x1, SrcOk 900000 (rdQ dl00Src x0)])
  | _ => none
theorem D_spec_l00Src_pick_ok : OkM Tryz.prog 59 D_spec_l00Src_pick := by
  intro xs r outs ob h ho
  unfold D_spec_l00Src_pick at h
  split at h
  · simp only [Option.some.injEq, Prod.mk.injEq] at h
    obtain ⟨rfl, rfl, rfl⟩ := h
    obtain ⟨h0, h1, hp0, _⟩ := ho
    exact DenM.sim (spec_l00Src_pick_den _ _ hp0) (simOL_cons (wQ_sim h0) <| simOL_cons (wI_sim h1).1 <| trivial)
  · cases h
end Go.Ab

namespace Go.Ab
open Go Go.Proofs
theorem pick_range {n : Int} {s : l00Src} (m : Int) (h : SrcOk n s) (hn : n ≤ 2000000000) : 0 ≤ (spec_l00Src_pick s m).1 ∧ (1 ≤ m → (spec_l00Src_pick s m).1 < m) := by
  have v1 := next_val h (by omega)
  have v2 := next_val (h.next (by omega)) (by omega)
  unfold spec_l00Src_pick
  simp only [Bool.cond_eq_ite, decide_eq_true_eq]
  repeat' split
  · simp; omega
  · have hx : 0 ≤ IntKind.wrap .i64 (IntKind.wrap .i64 ((spec_l00Src_next s).1 * 256) + (spec_l00Src_next (spec_l00Src_next s).2).1) := by
      simp only [IntKind.wrap_i64]; omega
    exact ⟨Int.tmod_nonneg _ hx, fun _ => Int.tmod_lt_of_pos _ (by omega)⟩
  · exact ⟨Int.tmod_nonneg _ v1.1, fun _ => Int.tmod_lt_of_pos _ (by omega)⟩
theorem SrcOk.pick {n : Int} {s : l00Src} {m : Int} (h : SrcOk n s) (hn : n ≤ 2000000000) : SrcOk (n + 2) (spec_l00Src_pick s m).2 := by
  unfold spec_l00Src_pick
  simp only [Bool.cond_eq_ite, decide_eq_true_eq]
  repeat' split
  · exact h.mono (by omega)
  · have := (h.next (by omega)).next (by omega)
    exact this.mono (by omega)
  · exact (h.next (by omega)).mono (by omega)
end Go.Ab

namespace Go.Ab
open Go Go.Proofs
theorem spec_l29Base_DD : DOk Tryz.prog (DD [(59, dM [true, false] D_spec_l00Src_pick)]) := DD_cons D_spec_l00Src_pick_ok.e <| DD_nil _
def spec_l29Base (a0 : l00Src) : Store × l00Src :=
  ({ Spares := [{ Name := [98, 117, 111, 121], Least := 0, Most := 20 : Spare }, { Name := [99, 104, 97, 105, 110], Least := ((spec_l00Src_pick a0 10).1), Most := 100 : Spare }, { Name := [108, 97, 109, 112], Least := 5, Most := 60 : Spare }], Entries := [] : Store }, (spec_l00Src_pick a0 10).2)
theorem spec_l29Base_den (a0 : l00Src) (hp0 : SrcOk 600000 a0) : DenM Tryz.prog 58 [.op (el00Src a0)] (.agg (eStoreO ((spec_l29Base a0).1))) [(.op (el00Src ((spec_l29Base a0).2)))] := by
  generalize hR : spec_l29Base a0 = r
  unfold spec_l29Base at hR
  refine den_introM (gb := [true]) G_ok Tryz.func58 (by kernel_rfl) rfl Tryz.ntmps58 (by rw [Tryz.results58]) (by simp) ?_
  intro c hL hc hk
  obtain ⟨hL0, _⟩ := hL
  have hw0 : bwl00Src a0 := l00Src_lens a0 hL0
  clear hL0
  simp only [adEL, adE, adRL, adR, ownL, encL, sv, List.nil_append, List.append_nil, List.cons_append, List.length_cons, List.length_nil, pars, Nat.zero_add, Nat.reduceAdd] at hk ⊢
  refine AWP.seq ?_
  refine AWP.regS G_ok spec_l29Base_DD hc (by kernel_rfl) (fun K hK => ?_); simp only [ea, absV, absVL, gv, sv, D_spec_l00Src_pick, reduceCtorEq, reduceIte, Nat.reduceBEq, Nat.reduceAdd, Nat.reduceEqDiff, Nat.reduceLT, Nat.reduceLeDiff, Nat.reduceMul, Nat.reduceSub, BEq.rfl, beq_self_eq_true, Int.reduceToNat]
  (refine hK _ ?_)
  clear hK K
  refine AWP.seq ?_
  refine AWP.regS G_ok spec_l29Base_DD hc (by kernel_rfl) (fun K hK => ?_); simp only [ea, absV, absVL, gv, sv, D_spec_l00Src_pick, reduceCtorEq, reduceIte, Nat.reduceBEq, Nat.reduceAdd, Nat.reduceEqDiff, Nat.reduceLT, Nat.reduceLeDiff, Nat.reduceMul, Nat.reduceSub, BEq.rfl, beq_self_eq_true, Int.reduceToNat]
  (refine ⟨by (((try clear hK K); (repeat' (apply And.intro)) <;> first | trivial | (refine SrcOk.mono (by repeat' assumption) (by omega)))), hK _ ?_⟩)
  clear hK K
  refine AWP.seq ?_
  refine AWP.regS G_ok spec_l29Base_DD hc (by kernel_rfl) (fun K hK => ?_); simp only [ea, absV, absVL, gv, sv, D_spec_l00Src_pick, reduceCtorEq, reduceIte, Nat.reduceBEq, Nat.reduceAdd, Nat.reduceEqDiff, Nat.reduceLT, Nat.reduceLeDiff, Nat.reduceMul, Nat.reduceSub, BEq.rfl, beq_self_eq_true, Int.reduceToNat]
  (refine hK _ ?_)
  clear hK K
  refine AWP.ret ?_
  subst hR
  (simp only [en, si, ea, gv, sv, hk, reduceCtorEq, reduceIte, Nat.reduceBEq, Nat.reduceAdd, Nat.reduceEqDiff, Nat.reduceLT, Nat.reduceLeDiff, Nat.reduceMul, Nat.reduceSub, BEq.rfl, beq_self_eq_true, Int.reduceToNat]; done)
def D_spec_l29Base : List AV → Option (AV × List AV × List Prop)
  | [x0] => some (.agg (eStoreO ((spec_l29Base (rdQ dl00Src x0)).1)), [(.op (el00Src ((spec_l29Base (rdQ dl00Src x0)).2)))], [wQ el00Src dl00Src x0, SrcOk 600000 (rdQ dl00Src x0)])
  | _ => none
theorem D_spec_l29Base_ok : OkM Tryz.prog 58 D_spec_l29Base := by
  intro xs r outs ob h ho
  unfold D_spec_l29Base at h
  split at h
  · simp only [Option.some.injEq, Prod.mk.injEq] at h
    obtain ⟨rfl, rfl, rfl⟩ := h
    obtain ⟨h0, hp0, _⟩ := ho
    exact DenM.sim (spec_l29Base_den _ hp0) (simOL_cons (wQ_sim h0) <| trivial)
  · cases h
end Go.Ab

namespace Go.Ab
open Go Go.Proofs
theorem spec_l01Digit_DD : DOk Tryz.prog (DD []) := DD_nil _
def spec_l01Digit (a0 : Int) : Bool :=
  (decide (48 ≤ a0) && decide (a0 ≤ 57))
theorem spec_l01Digit_den (a0 : Int)  : Den Tryz.prog 122 [.int .u8 a0] (.bool (spec_l01Digit a0)) := by
  generalize hR : spec_l01Digit a0 = r
  unfold spec_l01Digit at hR
  refine den_intro G_ok Tryz.func122 (by kernel_rfl) rfl Tryz.ntmps122 (by rw [Tryz.results122]) (by simp) rfl ?_
  intro c hL hc hk
  clear hL
  simp only [pars, Nat.zero_add]
  refine AWP.seq ?_
  refine AWP.regS G_ok spec_l01Digit_DD hc (by kernel_rfl) (fun K hK => ?_); simp only [ea, gv, sv, reduceCtorEq, reduceIte, Nat.reduceBEq, Nat.reduceAdd, Nat.reduceEqDiff, Nat.reduceLT, Nat.reduceLeDiff, Nat.reduceMul, Nat.reduceSub, BEq.rfl, beq_self_eq_true, Int.reduceToNat]
  (refine hK _ ?_)
  clear hK K
  refine AWP.seq ?_
  refine AWP.regS G_ok spec_l01Digit_DD hc (by kernel_rfl) (fun K hK => ?_); simp only [ea, gv, sv, reduceCtorEq, reduceIte, Nat.reduceBEq, Nat.reduceAdd, Nat.reduceEqDiff, Nat.reduceLT, Nat.reduceLeDiff, Nat.reduceMul, Nat.reduceSub, BEq.rfl, beq_self_eq_true, Int.reduceToNat]
  (refine hK _ ?_)
  clear hK K
  refine AWP.ret ?_
  subst hR
  (simp only [en, si, ea, gv, sv, hk, reduceCtorEq, reduceIte, Nat.reduceBEq, Nat.reduceAdd, Nat.reduceEqDiff, Nat.reduceLT, Nat.reduceLeDiff, Nat.reduceMul, Nat.reduceSub, BEq.rfl, beq_self_eq_true, Int.reduceToNat]; done)
def D_spec_l01Digit : DF
  | [x0] => some (.bool (spec_l01Digit (rdI x0)), false, [wI .u8 x0])
  | _ => none
theorem D_spec_l01Digit_ok : OkD Tryz.prog 122 D_spec_l01Digit := by
  intro xs r z ob h ho
  unfold D_spec_l01Digit at h
  split at h
  · simp only [Option.some.injEq, Prod.mk.injEq] at h
    obtain ⟨rfl, rfl, rfl⟩ := h
    obtain ⟨h0, _⟩ := ho
    exact Den.sim (spec_l01Digit_den _ ) (simOL_cons (wI_sim h0).1 <| trivial) (noIdL_cons (wI_sim h0).2 <| rfl) rfl
  · cases h
end Go.Ab

namespace Go.Ab
open Go Go.Proofs
theorem spec_l01Small_DD : DOk Tryz.prog (DD []) := DD_nil _
def spec_l01Small (a0 : Int) : Bool :=
  (decide (97 ≤ a0) && decide (a0 ≤ 122))
theorem spec_l01Small_den (a0 : Int)  : Den Tryz.prog 173 [.int .u8 a0] (.bool (spec_l01Small a0)) := by
  generalize hR : spec_l01Small a0 = r
  unfold spec_l01Small at hR
  refine den_intro G_ok Tryz.func173 (by kernel_rfl) rfl Tryz.ntmps173 (by rw [Tryz.results173]) (by simp) rfl ?_
  intro c hL hc hk
  clear hL
  simp only [pars, Nat.zero_add]
  refine AWP.seq ?_
  refine AWP.regS G_ok spec_l01Small_DD hc (by kernel_rfl) (fun K hK => ?_); simp only [ea, gv, sv, reduceCtorEq, reduceIte, Nat.reduceBEq, Nat.reduceAdd, Nat.reduceEqDiff, Nat.reduceLT, Nat.reduceLeDiff, Nat.reduceMul, Nat.reduceSub, BEq.rfl, beq_self_eq_true, Int.reduceToNat]
  (refine hK _ ?_)
  clear hK K
  refine AWP.seq ?_
  refine AWP.regS G_ok spec_l01Small_DD hc (by kernel_rfl) (fun K hK => ?_); simp only [ea, gv, sv, reduceCtorEq, reduceIte, Nat.reduceBEq, Nat.reduceAdd, Nat.reduceEqDiff, Nat.reduceLT, Nat.reduceLeDiff, Nat.reduceMul, Nat.reduceSub, BEq.rfl, beq_self_eq_true, Int.reduceToNat]
  (refine hK _ ?_)
  clear hK K
  refine AWP.ret ?_
  subst hR
  (simp only [en, si, ea, gv, sv, hk, reduceCtorEq, reduceIte, Nat.reduceBEq, Nat.reduceAdd, Nat.reduceEqDiff, Nat.reduceLT, Nat.reduceLeDiff, Nat.reduceMul, Nat.reduceSub, BEq.rfl, beq_self_eq_true, Int.reduceToNat]; done)
def D_spec_l01Small : DF
  | [x0] => some (.bool (spec_l01Small (rdI x0)), false, [wI .u8 x0])
  | _ => none
theorem D_spec_l01Small_ok : OkD Tryz.prog 173 D_spec_l01Small := by
  intro xs r z ob h ho
  unfold D_spec_l01Small at h
  split at h
  · simp only [Option.some.injEq, Prod.mk.injEq] at h
    obtain ⟨rfl, rfl, rfl⟩ := h
    obtain ⟨h0, _⟩ := ho
    exact Den.sim (spec_l01Small_den _ ) (simOL_cons (wI_sim h0).1 <| trivial) (noIdL_cons (wI_sim h0).2 <| rfl) rfl
  · cases h
end Go.Ab

namespace Go.Ab
open Go Go.Proofs
theorem spec_l01Name_DD : DOk Tryz.prog (DD [(122, dP D_spec_l01Digit), (173, dP D_spec_l01Small)]) := DD_cons D_spec_l01Digit_ok.e <| DD_cons D_spec_l01Small_ok.e <| DD_nil _
def spec_l01Name_b1 (a0 : (List UInt8)) (i1 : Nat) (s1 : Unit) : Except (Bool) (Unit) :=
  (bif ((!(spec_l01Small ((a0.getD i1 0).toNat : Int))) && (!(spec_l01Digit ((a0.getD i1 0).toNat : Int)))) then .error false else .ok ())
def spec_l01Name (a0 : (List UInt8)) : Bool :=
  (bif (((a0 == []) || decide (10 < (a0.length : Int))) || (!(spec_l01Small ((a0.getD 0 0).toNat : Int)))) then false else (match loopR (spec_l01Name_b1 a0) (a0.length - 0) 0 () with | .error e => e | .ok s1 => true))
theorem spec_l01Name_den (a0 : (List UInt8))  : Den Tryz.prog 124 [.str a0] (.bool (spec_l01Name a0)) := by
  generalize hR : spec_l01Name a0 = r
  unfold spec_l01Name at hR
  refine den_intro G_ok Tryz.func124 (by kernel_rfl) rfl Tryz.ntmps124 (by rw [Tryz.results124]) (by simp) rfl ?_
  intro c hL hc hk
  obtain ⟨hL0, _⟩ := hL
  have hw0 : a0.length < 9223372036854775808 := Nat.lt_succ_of_le hL0
  clear hL0
  simp only [pars, Nat.zero_add]
  refine AWP.seq ?_
  refine AWP.regS G_ok spec_l01Name_DD hc (by kernel_rfl) (fun K hK => ?_); simp only [ea, gv, sv, D_spec_l01Digit, D_spec_l01Small, reduceCtorEq, reduceIte, Nat.reduceBEq, Nat.reduceAdd, Nat.reduceEqDiff, Nat.reduceLT, Nat.reduceLeDiff, Nat.reduceMul, Nat.reduceSub, BEq.rfl, beq_self_eq_true, Int.reduceToNat]
  (refine hK _ ?_)
  clear hK K
  refine AWP.seq ?_
  refine AWP.seq ?_
  refine AWP.regS G_ok spec_l01Name_DD hc (by kernel_rfl) (fun K hK => ?_); simp only [ea, gv, sv, D_spec_l01Digit, D_spec_l01Small, reduceCtorEq, reduceIte, Nat.reduceBEq, Nat.reduceAdd, Nat.reduceEqDiff, Nat.reduceLT, Nat.reduceLeDiff, Nat.reduceMul, Nat.reduceSub, BEq.rfl, beq_self_eq_true, Int.reduceToNat]
  (refine ⟨by ((simp only [ob, ln, bdv, sv] at *; omega)), hK _ ?_⟩)
  clear hK K
  refine AWP.cond rfl (fun hb => ?_) (fun hb => ?_)
  · (simp only [hb, cond_true] at hR)
    refine AWP.seq ?_
    refine AWP.regS G_ok spec_l01Name_DD hc (by kernel_rfl) (fun K hK => ?_); simp only [ea, gv, sv, D_spec_l01Digit, D_spec_l01Small, reduceCtorEq, reduceIte, Nat.reduceBEq, Nat.reduceAdd, Nat.reduceEqDiff, Nat.reduceLT, Nat.reduceLeDiff, Nat.reduceMul, Nat.reduceSub, BEq.rfl, beq_self_eq_true, Int.reduceToNat]
    (refine hK _ ?_)
    clear hK K
    refine AWP.ret ?_
    subst hR
    (simp only [en, si, ea, gv, sv, hk, reduceCtorEq, reduceIte, Nat.reduceBEq, Nat.reduceAdd, Nat.reduceEqDiff, Nat.reduceLT, Nat.reduceLeDiff, Nat.reduceMul, Nat.reduceSub, BEq.rfl, beq_self_eq_true, Int.reduceToNat]; done)
  · (simp only [hb, cond_false] at hR)
    refine AWP.skip ?_
    refine AWP.seq ?_
    refine AWP.seq ?_
    refine AWP.regS G_ok spec_l01Name_DD hc (by kernel_rfl) (fun K hK => ?_); simp only [ea, gv, sv, D_spec_l01Digit, D_spec_l01Small, reduceCtorEq, reduceIte, Nat.reduceBEq, Nat.reduceAdd, Nat.reduceEqDiff, Nat.reduceLT, Nat.reduceLeDiff, Nat.reduceMul, Nat.reduceSub, BEq.rfl, beq_self_eq_true, Int.reduceToNat]
    (refine hK _ ?_)
    clear hK K
    refine AWP.block ?_
    generalize hz1 : loopR (spec_l01Name_b1 a0) (a0.length - 0) 0 () = z1 at hR
    refine AWP.range (spec_l01Name_b1 a0) (fun i1 s1 => ⟨[(0, .str a0), (3, .int .i64 (i1 : Int))], []⟩) (fun i1 s1 => True) (a0.length) 0 () [] hz1 (by (omega)) (by (trivial)) (by (simp only [si, ea, gv, sv, hk, reduceCtorEq, reduceIte, Nat.reduceBEq, Nat.reduceAdd, Nat.reduceEqDiff, Nat.reduceLT, Nat.reduceLeDiff, Nat.reduceMul, Nat.reduceSub, BEq.rfl, beq_self_eq_true, Int.reduceToNat]; trivial)) ?_
    clear hz1
    intro i1 s1 hi1 hW1 hz1
    refine AWP.seq ?_
    refine AWP.seq ?_
    refine AWP.regS G_ok spec_l01Name_DD hc (by kernel_rfl) (fun K hK => ?_); simp only [ea, gv, sv, D_spec_l01Digit, D_spec_l01Small, reduceCtorEq, reduceIte, Nat.reduceBEq, Nat.reduceAdd, Nat.reduceEqDiff, Nat.reduceLT, Nat.reduceLeDiff, Nat.reduceMul, Nat.reduceSub, BEq.rfl, beq_self_eq_true, Int.reduceToNat]
    (refine hK _ ?_)
    clear hK K
    refine AWP.cond rfl (fun hb => ?_) (fun hb => ?_)
    · have hlt1 : i1 < a0.length := by ((simp only [ob, ln, bdv, sv] at *; omega))
      rw [loopR_lt hlt1] at hz1; simp only [spec_l01Name_b1] at hz1
      refine AWP.skip ?_
      refine AWP.seq ?_
      refine AWP.block ?_
      refine AWP.seq ?_
      refine AWP.regS G_ok spec_l01Name_DD hc (by kernel_rfl) (fun K hK => ?_); simp only [ea, gv, sv, D_spec_l01Digit, D_spec_l01Small, reduceCtorEq, reduceIte, Nat.reduceBEq, Nat.reduceAdd, Nat.reduceEqDiff, Nat.reduceLT, Nat.reduceLeDiff, Nat.reduceMul, Nat.reduceSub, BEq.rfl, beq_self_eq_true, Int.reduceToNat]
      (refine ⟨by (omega), hK _ ?_⟩)
      clear hK K
      refine AWP.cond rfl (fun hb => ?_) (fun hb => ?_)
      · (simp only [hb, cond_true] at hz1)
        refine AWP.seq ?_
        refine AWP.regS G_ok spec_l01Name_DD hc (by kernel_rfl) (fun K hK => ?_); simp only [ea, gv, sv, D_spec_l01Digit, D_spec_l01Small, reduceCtorEq, reduceIte, Nat.reduceBEq, Nat.reduceAdd, Nat.reduceEqDiff, Nat.reduceLT, Nat.reduceLeDiff, Nat.reduceMul, Nat.reduceSub, BEq.rfl, beq_self_eq_true, Int.reduceToNat]
        (refine hK _ ?_)
        clear hK K
        refine AWP.ret ?_
        subst hz1
        dsimp only at hR
        subst hR
        (simp only [en, si, ea, gv, sv, hk, reduceCtorEq, reduceIte, Nat.reduceBEq, Nat.reduceAdd, Nat.reduceEqDiff, Nat.reduceLT, Nat.reduceLeDiff, Nat.reduceMul, Nat.reduceSub, BEq.rfl, beq_self_eq_true, Int.reduceToNat]; done)
      · (simp only [hb, cond_false] at hz1)
        refine AWP.skip ?_
        refine AWP.regS G_ok spec_l01Name_DD hc (by kernel_rfl) (fun K hK => ?_); simp only [ea, gv, sv, D_spec_l01Digit, D_spec_l01Small, reduceCtorEq, reduceIte, Nat.reduceBEq, Nat.reduceAdd, Nat.reduceEqDiff, Nat.reduceLT, Nat.reduceLeDiff, Nat.reduceMul, Nat.reduceSub, BEq.rfl, beq_self_eq_true, Int.reduceToNat]
        (refine hK _ ?_)
        clear hK K
        exact ⟨_, [], hlt1, by (trivial), hz1, by (simp only [si, ea, gv, sv, hk, reduceCtorEq, reduceIte, Nat.reduceBEq, Nat.reduceAdd, Nat.reduceEqDiff, Nat.reduceLT, Nat.reduceLeDiff, Nat.reduceMul, Nat.reduceSub, BEq.rfl, beq_self_eq_true, Int.reduceToNat]; (and_intros <;> first | trivial | (rw [IntKind.wrap_i64]; omega)))⟩
    · obtain rfl : i1 = a0.length := by ((simp only [ob, ln, bdv, sv] at *; omega))
      rw [loopR_ge (Nat.le_refl _)] at hz1; subst hz1; dsimp only at hR
      refine AWP.exit ?_; refine exitTo_here ?_
      refine AWP.seq ?_
      refine AWP.regS G_ok spec_l01Name_DD hc (by kernel_rfl) (fun K hK => ?_); simp only [ea, gv, sv, D_spec_l01Digit, D_spec_l01Small, reduceCtorEq, reduceIte, Nat.reduceBEq, Nat.reduceAdd, Nat.reduceEqDiff, Nat.reduceLT, Nat.reduceLeDiff, Nat.reduceMul, Nat.reduceSub, BEq.rfl, beq_self_eq_true, Int.reduceToNat]
      (refine hK _ ?_)
      clear hK K
      refine AWP.ret ?_
      subst hR
      (simp only [en, si, ea, gv, sv, hk, reduceCtorEq, reduceIte, Nat.reduceBEq, Nat.reduceAdd, Nat.reduceEqDiff, Nat.reduceLT, Nat.reduceLeDiff, Nat.reduceMul, Nat.reduceSub, BEq.rfl, beq_self_eq_true, Int.reduceToNat]; done)
def D_spec_l01Name : DF
  | [x0] => some (.bool (spec_l01Name (rdS x0)), false, [wS x0])
  | _ => none
theorem D_spec_l01Name_ok : OkD Tryz.prog 124 D_spec_l01Name := by
  intro xs r z ob h ho
  unfold D_spec_l01Name at h
  split at h
  · simp only [Option.some.injEq, Prod.mk.injEq] at h
    obtain ⟨rfl, rfl, rfl⟩ := h
    obtain ⟨h0, _⟩ := ho
    exact Den.sim (spec_l01Name_den _ ) (simOL_cons (wS_sim h0).1 <| trivial) (noIdL_cons (wS_sim h0).2 <| rfl) rfl
  · cases h
end Go.Ab

namespace Go.Ab
open Go Go.Proofs
theorem spec_l00In_DD : DOk Tryz.prog (DD []) := DD_nil _
def spec_l00In (a0 : Int) (a1 : Int) (a2 : Int) : Bool :=
  (decide (a1 ≤ a0) && decide (a0 ≤ a2))
theorem spec_l00In_den (a0 : Int) (a1 : Int) (a2 : Int)  : Den Tryz.prog 98 [.int .i64 a0, .int .i64 a1, .int .i64 a2] (.bool (spec_l00In a0 a1 a2)) := by
  generalize hR : spec_l00In a0 a1 a2 = r
  unfold spec_l00In at hR
  refine den_intro G_ok Tryz.func98 (by kernel_rfl) rfl Tryz.ntmps98 (by rw [Tryz.results98]) (by simp) rfl ?_
  intro c hL hc hk
  clear hL
  simp only [pars, Nat.zero_add]
  refine AWP.seq ?_
  refine AWP.regS G_ok spec_l00In_DD hc (by kernel_rfl) (fun K hK => ?_); simp only [ea, gv, sv, reduceCtorEq, reduceIte, Nat.reduceBEq, Nat.reduceAdd, Nat.reduceEqDiff, Nat.reduceLT, Nat.reduceLeDiff, Nat.reduceMul, Nat.reduceSub, BEq.rfl, beq_self_eq_true, Int.reduceToNat]
  (refine hK _ ?_)
  clear hK K
  refine AWP.seq ?_
  refine AWP.regS G_ok spec_l00In_DD hc (by kernel_rfl) (fun K hK => ?_); simp only [ea, gv, sv, reduceCtorEq, reduceIte, Nat.reduceBEq, Nat.reduceAdd, Nat.reduceEqDiff, Nat.reduceLT, Nat.reduceLeDiff, Nat.reduceMul, Nat.reduceSub, BEq.rfl, beq_self_eq_true, Int.reduceToNat]
  (refine hK _ ?_)
  clear hK K
  refine AWP.ret ?_
  subst hR
  (simp only [en, si, ea, gv, sv, hk, reduceCtorEq, reduceIte, Nat.reduceBEq, Nat.reduceAdd, Nat.reduceEqDiff, Nat.reduceLT, Nat.reduceLeDiff, Nat.reduceMul, Nat.reduceSub, BEq.rfl, beq_self_eq_true, Int.reduceToNat]; done)
def D_spec_l00In : DF
  | [x0, x1, x2] => some (.bool (spec_l00In (rdI x0) (rdI x1) (rdI x2)), false, [wI .i64 x0, wI .i64 x1, wI .i64 x2])
  | _ => none
theorem D_spec_l00In_ok : OkD Tryz.prog 98 D_spec_l00In := by
  intro xs r z ob h ho
  unfold D_spec_l00In at h
  split at h
  · simp only [Option.some.injEq, Prod.mk.injEq] at h
    obtain ⟨rfl, rfl, rfl⟩ := h
    obtain ⟨h0, h1, h2, _⟩ := ho
    exact Den.sim (spec_l00In_den _ _ _ ) (simOL_cons (wI_sim h0).1 <| simOL_cons (wI_sim h1).1 <| simOL_cons (wI_sim h2).1 <| trivial) (noIdL_cons (wI_sim h0).2 <| noIdL_cons (wI_sim h1).2 <| noIdL_cons (wI_sim h2).2 <| rfl) rfl
  · cases h
end Go.Ab

namespace Go.Ab
open Go Go.Proofs
theorem spec_l29Item_DD : DOk Tryz.prog (DD [(124, dP D_spec_l01Name), (98, dP D_spec_l00In)]) := DD_cons D_spec_l01Name_ok.e <| DD_cons D_spec_l00In_ok.e <| DD_nil _
def spec_l29Item (a0 : Spare) : Bool :=
  (((spec_l01Name a0.Name) && (spec_l00In a0.Most 0 10000)) && (spec_l00In a0.Least 0 a0.Most))
theorem spec_l29Item_den (a0 : Spare)  : Den Tryz.prog 143 [.ep (eSpare a0)] (.bool (spec_l29Item a0)) := by
  generalize hR : spec_l29Item a0 = r
  unfold spec_l29Item at hR
  refine den_intro G_ok Tryz.func143 (by kernel_rfl) rfl Tryz.ntmps143 (by rw [Tryz.results143]) (by simp) rfl ?_
  intro c hL hc hk
  obtain ⟨hL0, _⟩ := hL
  have hw0 : bwSpare a0 := Spare_lens a0 hL0
  clear hL0
  simp only [pars, Nat.zero_add]
  refine AWP.seq ?_
  refine AWP.regS G_ok spec_l29Item_DD hc (by kernel_rfl) (fun K hK => ?_); simp only [ea, gv, sv, D_spec_l01Name, D_spec_l00In, reduceCtorEq, reduceIte, Nat.reduceBEq, Nat.reduceAdd, Nat.reduceEqDiff, Nat.reduceLT, Nat.reduceLeDiff, Nat.reduceMul, Nat.reduceSub, BEq.rfl, beq_self_eq_true, Int.reduceToNat]
  (refine hK _ ?_)
  clear hK K
  refine AWP.seq ?_
  refine AWP.regD mixed G_ok spec_l29Item_DD hc 23 (by kernel_rfl) (by kernel_rfl) (fun K hK => ?_); simp only [ea, gv, sv, D_spec_l01Name, D_spec_l00In, reduceCtorEq, reduceIte, Nat.reduceBEq, Nat.reduceAdd, Nat.reduceEqDiff, Nat.reduceLT, Nat.reduceLeDiff, Nat.reduceMul, Nat.reduceSub, BEq.rfl, beq_self_eq_true, Int.reduceToNat]
  (refine hK _ ?_)
  clear hK K
  refine AWP.ret ?_
  subst hR
  (simp only [en, si, ea, gv, sv, hk, reduceCtorEq, reduceIte, Nat.reduceBEq, Nat.reduceAdd, Nat.reduceEqDiff, Nat.reduceLT, Nat.reduceLeDiff, Nat.reduceMul, Nat.reduceSub, BEq.rfl, beq_self_eq_true, Int.reduceToNat]; done)
def D_spec_l29Item : DF
  | [x0] => some (.bool (spec_l29Item (rdP dSpare x0)), false, [wP eSpare dSpare x0])
  | _ => none
theorem D_spec_l29Item_ok : OkD Tryz.prog 143 D_spec_l29Item := by
  intro xs r z ob h ho
  unfold D_spec_l29Item at h
  split at h
  · simp only [Option.some.injEq, Prod.mk.injEq] at h
    obtain ⟨rfl, rfl, rfl⟩ := h
    obtain ⟨h0, _⟩ := ho
    exact Den.sim (spec_l29Item_den _ ) (simOL_cons (wP_sim h0).1 <| trivial) (noIdL_cons (wP_sim h0).2 <| rfl) rfl
  · cases h
end Go.Ab

namespace Go.Ab
open Go Go.Proofs
theorem spec_l29Find_DD : DOk Tryz.prog (DD []) := DD_nil _
def spec_l29Find_b1 (a0 : Store) (a1 : (List UInt8)) (i1 : Nat) (s1 : Unit) : Except (Int) (Unit) :=
  (bif (((a0.Spares.getD i1 default).Name) == a1) then .error (i1 : Int) else .ok ())
def spec_l29Find (a0 : Store) (a1 : (List UInt8)) : Int :=
  (match loopR (spec_l29Find_b1 a0 a1) (a0.Spares.length - 0) 0 () with | .error e => e | .ok s1 => (-1))
theorem spec_l29Find_den (a0 : Store) (a1 : (List UInt8))  : Den Tryz.prog 144 [.ep (eStore a0), .str a1] (.int .i64 (spec_l29Find a0 a1)) := by
  generalize hR : spec_l29Find a0 a1 = r
  unfold spec_l29Find at hR
  refine den_intro G_ok Tryz.func144 (by kernel_rfl) rfl Tryz.ntmps144 (by rw [Tryz.results144]) (by simp) rfl ?_
  intro c hL hc hk
  obtain ⟨hL0, hL1, _⟩ := hL
  have hw0 : bwStore a0 := Store_lens a0 hL0
  have hw1 : a1.length < 9223372036854775808 := Nat.lt_succ_of_le hL1
  clear hL0 hL1
  simp only [pars, Nat.zero_add]
  refine AWP.seq ?_
  refine AWP.regS G_ok spec_l29Find_DD hc (by kernel_rfl) (fun K hK => ?_); simp only [ea, gv, sv, reduceCtorEq, reduceIte, Nat.reduceBEq, Nat.reduceAdd, Nat.reduceEqDiff, Nat.reduceLT, Nat.reduceLeDiff, Nat.reduceMul, Nat.reduceSub, BEq.rfl, beq_self_eq_true, Int.reduceToNat]
  (refine hK _ ?_)
  clear hK K
  refine AWP.seq ?_
  refine AWP.seq ?_
  refine AWP.regS G_ok spec_l29Find_DD hc (by kernel_rfl) (fun K hK => ?_); simp only [ea, gv, sv, reduceCtorEq, reduceIte, Nat.reduceBEq, Nat.reduceAdd, Nat.reduceEqDiff, Nat.reduceLT, Nat.reduceLeDiff, Nat.reduceMul, Nat.reduceSub, BEq.rfl, beq_self_eq_true, Int.reduceToNat]
  (refine hK _ ?_)
  clear hK K
  refine AWP.block ?_
  generalize hz1 : loopR (spec_l29Find_b1 a0 a1) (a0.Spares.length - 0) 0 () = z1 at hR
  refine AWP.range (spec_l29Find_b1 a0 a1) (fun i1 s1 => ⟨[(0, .ep (eStore a0)), (1, .str a1), (5, .int .i64 (i1 : Int))], []⟩) (fun i1 s1 => True) (a0.Spares.length) 0 () [] hz1 (by (omega)) (by (trivial)) (by (simp only [si, ea, gv, sv, hk, reduceCtorEq, reduceIte, Nat.reduceBEq, Nat.reduceAdd, Nat.reduceEqDiff, Nat.reduceLT, Nat.reduceLeDiff, Nat.reduceMul, Nat.reduceSub, BEq.rfl, beq_self_eq_true, Int.reduceToNat]; trivial)) ?_
  clear hz1
  intro i1 s1 hi1 hW1 hz1
  refine AWP.seq ?_
  refine AWP.seq ?_
  refine AWP.regS G_ok spec_l29Find_DD hc (by kernel_rfl) (fun K hK => ?_); simp only [ea, gv, sv, reduceCtorEq, reduceIte, Nat.reduceBEq, Nat.reduceAdd, Nat.reduceEqDiff, Nat.reduceLT, Nat.reduceLeDiff, Nat.reduceMul, Nat.reduceSub, BEq.rfl, beq_self_eq_true, Int.reduceToNat]
  (refine hK _ ?_)
  clear hK K
  refine AWP.cond rfl (fun hb => ?_) (fun hb => ?_)
  · have hlt1 : i1 < a0.Spares.length := by ((simp only [ob, ln, bdv, sv] at *; omega))
    rw [loopR_lt hlt1] at hz1; simp only [spec_l29Find_b1] at hz1
    refine AWP.skip ?_
    refine AWP.seq ?_
    refine AWP.block ?_
    refine AWP.seq ?_
    refine AWP.regS G_ok spec_l29Find_DD hc (by kernel_rfl) (fun K hK => ?_); simp only [ea, gv, sv, reduceCtorEq, reduceIte, Nat.reduceBEq, Nat.reduceAdd, Nat.reduceEqDiff, Nat.reduceLT, Nat.reduceLeDiff, Nat.reduceMul, Nat.reduceSub, BEq.rfl, beq_self_eq_true, Int.reduceToNat]
    (refine ⟨by (omega), hK _ ?_⟩)
    clear hK K
    refine AWP.cond rfl (fun hb => ?_) (fun hb => ?_)
    · (simp only [hb, cond_true] at hz1)
      refine AWP.seq ?_
      refine AWP.regS G_ok spec_l29Find_DD hc (by kernel_rfl) (fun K hK => ?_); simp only [ea, gv, sv, reduceCtorEq, reduceIte, Nat.reduceBEq, Nat.reduceAdd, Nat.reduceEqDiff, Nat.reduceLT, Nat.reduceLeDiff, Nat.reduceMul, Nat.reduceSub, BEq.rfl, beq_self_eq_true, Int.reduceToNat]
      (refine hK _ ?_)
      clear hK K
      refine AWP.ret ?_
      subst hz1
      dsimp only at hR
      subst hR
      (simp only [en, si, ea, gv, sv, hk, reduceCtorEq, reduceIte, Nat.reduceBEq, Nat.reduceAdd, Nat.reduceEqDiff, Nat.reduceLT, Nat.reduceLeDiff, Nat.reduceMul, Nat.reduceSub, BEq.rfl, beq_self_eq_true, Int.reduceToNat]; done)
    · (simp only [hb, cond_false] at hz1)
      refine AWP.skip ?_
      refine AWP.regS G_ok spec_l29Find_DD hc (by kernel_rfl) (fun K hK => ?_); simp only [ea, gv, sv, reduceCtorEq, reduceIte, Nat.reduceBEq, Nat.reduceAdd, Nat.reduceEqDiff, Nat.reduceLT, Nat.reduceLeDiff, Nat.reduceMul, Nat.reduceSub, BEq.rfl, beq_self_eq_true, Int.reduceToNat]
      (refine hK _ ?_)
      clear hK K
      exact ⟨_, [], hlt1, by (trivial), hz1, by (simp only [si, ea, gv, sv, hk, reduceCtorEq, reduceIte, Nat.reduceBEq, Nat.reduceAdd, Nat.reduceEqDiff, Nat.reduceLT, Nat.reduceLeDiff, Nat.reduceMul, Nat.reduceSub, BEq.rfl, beq_self_eq_true, Int.reduceToNat]; (and_intros <;> first | trivial | (simp only [ob, ln, bdv, sv] at *; omega)))⟩
  · obtain rfl : i1 = a0.Spares.length := by ((simp only [ob, ln, bdv, sv] at *; omega))
    rw [loopR_ge (Nat.le_refl _)] at hz1; subst hz1; dsimp only at hR
    refine AWP.exit ?_; refine exitTo_here ?_
    refine AWP.seq ?_
    refine AWP.regS G_ok spec_l29Find_DD hc (by kernel_rfl) (fun K hK => ?_); simp only [ea, gv, sv, reduceCtorEq, reduceIte, Nat.reduceBEq, Nat.reduceAdd, Nat.reduceEqDiff, Nat.reduceLT, Nat.reduceLeDiff, Nat.reduceMul, Nat.reduceSub, BEq.rfl, beq_self_eq_true, Int.reduceToNat]
    (refine hK _ ?_)
    clear hK K
    refine AWP.ret ?_
    subst hR
    (simp only [en, si, ea, gv, sv, hk, reduceCtorEq, reduceIte, Nat.reduceBEq, Nat.reduceAdd, Nat.reduceEqDiff, Nat.reduceLT, Nat.reduceLeDiff, Nat.reduceMul, Nat.reduceSub, BEq.rfl, beq_self_eq_true, Int.reduceToNat]; done)
def D_spec_l29Find : DF
  | [x0, x1] => some (.int .i64 (spec_l29Find (rdP dStore x0) (rdS x1)), false, [wP eStore dStore x0, wS x1])
  | _ => none
theorem D_spec_l29Find_ok : OkD Tryz.prog 144 D_spec_l29Find := by
  intro xs r z ob h ho
  unfold D_spec_l29Find at h
  split at h
  · simp only [Option.some.injEq, Prod.mk.injEq] at h
    obtain ⟨rfl, rfl, rfl⟩ := h
    obtain ⟨h0, h1, _⟩ := ho
    exact Den.sim (spec_l29Find_den _ _ ) (simOL_cons (wP_sim h0).1 <| simOL_cons (wS_sim h1).1 <| trivial) (noIdL_cons (wP_sim h0).2 <| noIdL_cons (wS_sim h1).2 <| rfl) rfl
  · cases h
end Go.Ab

namespace Go.Ab
open Go Go.Proofs
theorem spec_l29Flow_DD : DOk Tryz.prog (DD [(98, dP D_spec_l00In)]) := DD_cons D_spec_l00In_ok.e <| DD_nil _
def spec_l29Flow_b1 (a0 : Store) (a1 : Int) (i1 : Nat) (s1 : Int) : Except (Bool) (Int) :=
  (bif (((a0.Entries.getD i1 default).Item) == ((a0.Spares.getD ((a1).toNat) default).Name)) then (bif (!(spec_l00In (IntKind.wrap .i64 (s1 + ((a0.Entries.getD i1 default).Amount))) 0 ((a0.Spares.getD ((a1).toNat) default).Most))) then .error false else .ok (IntKind.wrap .i64 (s1 + ((a0.Entries.getD i1 default).Amount)))) else .ok s1)
def spec_l29Flow (a0 : Store) (a1 : Int) : Bool :=
  (match loopR (spec_l29Flow_b1 a0 a1) (a0.Entries.length - 0) 0 0 with | .error e => e | .ok s1 => true)
theorem spec_l29Flow_den (a0 : Store) (a1 : Int) (hp0 : 0 ≤ a1) (hp1 : a1 < a0.Spares.length) : Den Tryz.prog 145 [.ep (eStore a0), .int .i64 a1] (.bool (spec_l29Flow a0 a1)) := by
  generalize hR : spec_l29Flow a0 a1 = r
  unfold spec_l29Flow at hR
  refine den_intro G_ok Tryz.func145 (by kernel_rfl) rfl Tryz.ntmps145 (by rw [Tryz.results145]) (by simp) rfl ?_
  intro c hL hc hk
  obtain ⟨hL0, hL1, _⟩ := hL
  have hw0 : bwStore a0 := Store_lens a0 hL0
  clear hL0 hL1
  simp only [pars, Nat.zero_add]
  refine AWP.seq ?_
  refine AWP.regS G_ok spec_l29Flow_DD hc (by kernel_rfl) (fun K hK => ?_); simp only [ea, gv, sv, D_spec_l00In, reduceCtorEq, reduceIte, Nat.reduceBEq, Nat.reduceAdd, Nat.reduceEqDiff, Nat.reduceLT, Nat.reduceLeDiff, Nat.reduceMul, Nat.reduceSub, BEq.rfl, beq_self_eq_true, Int.reduceToNat]
  (refine hK _ ?_)
  clear hK K
  refine AWP.seq ?_
  refine AWP.regS G_ok spec_l29Flow_DD hc (by kernel_rfl) (fun K hK => ?_); simp only [ea, gv, sv, D_spec_l00In, reduceCtorEq, reduceIte, Nat.reduceBEq, Nat.reduceAdd, Nat.reduceEqDiff, Nat.reduceLT, Nat.reduceLeDiff, Nat.reduceMul, Nat.reduceSub, BEq.rfl, beq_self_eq_true, Int.reduceToNat]
  (refine hK _ ?_)
  clear hK K
  refine AWP.seq ?_
  refine AWP.seq ?_
  refine AWP.regS G_ok spec_l29Flow_DD hc (by kernel_rfl) (fun K hK => ?_); simp only [ea, gv, sv, D_spec_l00In, reduceCtorEq, reduceIte, Nat.reduceBEq, Nat.reduceAdd, Nat.reduceEqDiff, Nat.reduceLT, Nat.reduceLeDiff, Nat.reduceMul, Nat.reduceSub, BEq.rfl, beq_self_eq_true, Int.reduceToNat]
  (refine hK _ ?_)
  clear hK K
  refine AWP.block ?_
  generalize hz1 : loopR (spec_l29Flow_b1 a0 a1) (a0.Entries.length - 0) 0 0 = z1 at hR
  refine AWP.range (spec_l29Flow_b1 a0 a1) (fun i1 s1 => ⟨[(0, .ep (eStore a0)), (1, .int .i64 a1), (5, .int .i64 s1), (6, .int .i64 (i1 : Int))], []⟩) (fun i1 s1 => True) (a0.Entries.length) 0 0 [] hz1 (by (omega)) (by (trivial)) (by (simp only [si, ea, gv, sv, hk, reduceCtorEq, reduceIte, Nat.reduceBEq, Nat.reduceAdd, Nat.reduceEqDiff, Nat.reduceLT, Nat.reduceLeDiff, Nat.reduceMul, Nat.reduceSub, BEq.rfl, beq_self_eq_true, Int.reduceToNat]; trivial)) ?_
  clear hz1
  intro i1 s1 hi1 hW1 hz1
  refine AWP.seq ?_
  refine AWP.seq ?_
  refine AWP.regS G_ok spec_l29Flow_DD hc (by kernel_rfl) (fun K hK => ?_); simp only [ea, gv, sv, D_spec_l00In, reduceCtorEq, reduceIte, Nat.reduceBEq, Nat.reduceAdd, Nat.reduceEqDiff, Nat.reduceLT, Nat.reduceLeDiff, Nat.reduceMul, Nat.reduceSub, BEq.rfl, beq_self_eq_true, Int.reduceToNat]
  (refine hK _ ?_)
  clear hK K
  refine AWP.cond rfl (fun hb => ?_) (fun hb => ?_)
  · have hlt1 : i1 < a0.Entries.length := by ((simp only [ob, ln, bdv, spec_l00In, sv] at *; omega))
    rw [loopR_lt hlt1] at hz1; simp only [spec_l29Flow_b1] at hz1
    refine AWP.skip ?_
    refine AWP.seq ?_
    refine AWP.block ?_
    refine AWP.seq ?_
    refine AWP.regD mixed G_ok spec_l29Flow_DD hc 17 (by kernel_rfl) (by kernel_rfl) (fun K hK => ?_); simp only [ea, gv, sv, D_spec_l00In, reduceCtorEq, reduceIte, Nat.reduceBEq, Nat.reduceAdd, Nat.reduceEqDiff, Nat.reduceLT, Nat.reduceLeDiff, Nat.reduceMul, Nat.reduceSub, BEq.rfl, beq_self_eq_true, Int.reduceToNat]
    (refine ⟨by (omega), hK _ ?_⟩)
    clear hK K
    refine AWP.cond rfl (fun hb => ?_) (fun hb => ?_)
    · (simp only [hb, cond_true] at hz1)
      refine AWP.seq ?_
      refine AWP.regS G_ok spec_l29Flow_DD hc (by kernel_rfl) (fun K hK => ?_); simp only [ea, gv, sv, D_spec_l00In, reduceCtorEq, reduceIte, Nat.reduceBEq, Nat.reduceAdd, Nat.reduceEqDiff, Nat.reduceLT, Nat.reduceLeDiff, Nat.reduceMul, Nat.reduceSub, BEq.rfl, beq_self_eq_true, Int.reduceToNat]
      (refine ⟨by (omega), hK _ ?_⟩)
      clear hK K
      refine AWP.seq ?_
      refine AWP.regS G_ok spec_l29Flow_DD hc (by kernel_rfl) (fun K hK => ?_); simp only [ea, gv, sv, D_spec_l00In, reduceCtorEq, reduceIte, Nat.reduceBEq, Nat.reduceAdd, Nat.reduceEqDiff, Nat.reduceLT, Nat.reduceLeDiff, Nat.reduceMul, Nat.reduceSub, BEq.rfl, beq_self_eq_true, Int.reduceToNat]
      (refine ⟨by (trivial), hK _ ?_⟩)
      clear hK K
      refine AWP.cond rfl (fun hb => ?_) (fun hb => ?_)
      · (simp only [hb, cond_true] at hz1)
        refine AWP.seq ?_
        refine AWP.regS G_ok spec_l29Flow_DD hc (by kernel_rfl) (fun K hK => ?_); simp only [ea, gv, sv, D_spec_l00In, reduceCtorEq, reduceIte, Nat.reduceBEq, Nat.reduceAdd, Nat.reduceEqDiff, Nat.reduceLT, Nat.reduceLeDiff, Nat.reduceMul, Nat.reduceSub, BEq.rfl, beq_self_eq_true, Int.reduceToNat]
        (refine hK _ ?_)
        clear hK K
        refine AWP.ret ?_
        subst hz1
        dsimp only at hR
        subst hR
        (simp only [en, si, ea, gv, sv, hk, reduceCtorEq, reduceIte, Nat.reduceBEq, Nat.reduceAdd, Nat.reduceEqDiff, Nat.reduceLT, Nat.reduceLeDiff, Nat.reduceMul, Nat.reduceSub, BEq.rfl, beq_self_eq_true, Int.reduceToNat]; done)
      · (simp only [hb, cond_false] at hz1)
        refine AWP.skip ?_
        refine AWP.regS G_ok spec_l29Flow_DD hc (by kernel_rfl) (fun K hK => ?_); simp only [ea, gv, sv, D_spec_l00In, reduceCtorEq, reduceIte, Nat.reduceBEq, Nat.reduceAdd, Nat.reduceEqDiff, Nat.reduceLT, Nat.reduceLeDiff, Nat.reduceMul, Nat.reduceSub, BEq.rfl, beq_self_eq_true, Int.reduceToNat]
        (refine hK _ ?_)
        clear hK K
        exact ⟨_, [], hlt1, by (trivial), hz1, by (simp only [si, ea, gv, sv, hk, reduceCtorEq, reduceIte, Nat.reduceBEq, Nat.reduceAdd, Nat.reduceEqDiff, Nat.reduceLT, Nat.reduceLeDiff, Nat.reduceMul, Nat.reduceSub, BEq.rfl, beq_self_eq_true, Int.reduceToNat]; (and_intros <;> first | trivial | (simp only [ob, ln, bdv, spec_l00In, sv] at *; omega)))⟩
    · (simp only [hb, cond_false] at hz1)
      refine AWP.skip ?_
      refine AWP.regS G_ok spec_l29Flow_DD hc (by kernel_rfl) (fun K hK => ?_); simp only [ea, gv, sv, D_spec_l00In, reduceCtorEq, reduceIte, Nat.reduceBEq, Nat.reduceAdd, Nat.reduceEqDiff, Nat.reduceLT, Nat.reduceLeDiff, Nat.reduceMul, Nat.reduceSub, BEq.rfl, beq_self_eq_true, Int.reduceToNat]
      (refine hK _ ?_)
      clear hK K
      exact ⟨_, [], hlt1, by (trivial), hz1, by (simp only [si, ea, gv, sv, hk, reduceCtorEq, reduceIte, Nat.reduceBEq, Nat.reduceAdd, Nat.reduceEqDiff, Nat.reduceLT, Nat.reduceLeDiff, Nat.reduceMul, Nat.reduceSub, BEq.rfl, beq_self_eq_true, Int.reduceToNat]; (and_intros <;> first | trivial | (simp only [ob, ln, bdv, spec_l00In, sv] at *; omega)))⟩
  · obtain rfl : i1 = a0.Entries.length := by ((simp only [ob, ln, bdv, spec_l00In, sv] at *; omega))
    rw [loopR_ge (Nat.le_refl _)] at hz1; subst hz1; dsimp only at hR
    refine AWP.exit ?_; refine exitTo_here ?_
    refine AWP.seq ?_
    refine AWP.regS G_ok spec_l29Flow_DD hc (by kernel_rfl) (fun K hK => ?_); simp only [ea, gv, sv, D_spec_l00In, reduceCtorEq, reduceIte, Nat.reduceBEq, Nat.reduceAdd, Nat.reduceEqDiff, Nat.reduceLT, Nat.reduceLeDiff, Nat.reduceMul, Nat.reduceSub, BEq.rfl, beq_self_eq_true, Int.reduceToNat]
    (refine hK _ ?_)
    clear hK K
    refine AWP.ret ?_
    subst hR
    (simp only [en, si, ea, gv, sv, hk, reduceCtorEq, reduceIte, Nat.reduceBEq, Nat.reduceAdd, Nat.reduceEqDiff, Nat.reduceLT, Nat.reduceLeDiff, Nat.reduceMul, Nat.reduceSub, BEq.rfl, beq_self_eq_true, Int.reduceToNat]; done)
def D_spec_l29Flow : DF
  | [x0, x1] => some (.bool (spec_l29Flow (rdP dStore x0) (rdI x1)), false, [wP eStore dStore x0, wI .i64 x1, 0 ≤ (rdI x1), (rdI x1) < (rdP dStore x0).Spares.length])
  | _ => none
theorem D_spec_l29Flow_ok : OkD Tryz.prog 145 D_spec_l29Flow := by
  intro xs r z ob h ho
  unfold D_spec_l29Flow at h
  split at h
  · simp only [Option.some.injEq, Prod.mk.injEq] at h
    obtain ⟨rfl, rfl, rfl⟩ := h
    obtain ⟨h0, h1, hp0, hp1, _⟩ := ho
    exact Den.sim (spec_l29Flow_den _ _ hp0 hp1) (simOL_cons (wP_sim h0).1 <| simOL_cons (wI_sim h1).1 <| trivial) (noIdL_cons (wP_sim h0).2 <| noIdL_cons (wI_sim h1).2 <| rfl) rfl
  · cases h
end Go.Ab

namespace Go.Ab
open Go Go.Proofs
theorem spec_l03Day_DD : DOk Tryz.prog (DD [(98, dP D_spec_l00In)]) := DD_cons D_spec_l00In_ok.e <| DD_nil _
def spec_l03Day (a0 : Int) : Bool :=
  (spec_l00In a0 0 99999)
theorem spec_l03Day_den (a0 : Int)  : Den Tryz.prog 123 [.int .i64 a0] (.bool (spec_l03Day a0)) := by
  generalize hR : spec_l03Day a0 = r
  unfold spec_l03Day at hR
  refine den_intro G_ok Tryz.func123 (by kernel_rfl) rfl Tryz.ntmps123 (by rw [Tryz.results123]) (by simp) rfl ?_
  intro c hL hc hk
  clear hL
  simp only [pars, Nat.zero_add]
  refine AWP.seq ?_
  refine AWP.regS G_ok spec_l03Day_DD hc (by kernel_rfl) (fun K hK => ?_); simp only [ea, gv, sv, D_spec_l00In, reduceCtorEq, reduceIte, Nat.reduceBEq, Nat.reduceAdd, Nat.reduceEqDiff, Nat.reduceLT, Nat.reduceLeDiff, Nat.reduceMul, Nat.reduceSub, BEq.rfl, beq_self_eq_true, Int.reduceToNat]
  (refine hK _ ?_)
  clear hK K
  refine AWP.seq ?_
  refine AWP.regS G_ok spec_l03Day_DD hc (by kernel_rfl) (fun K hK => ?_); simp only [ea, gv, sv, D_spec_l00In, reduceCtorEq, reduceIte, Nat.reduceBEq, Nat.reduceAdd, Nat.reduceEqDiff, Nat.reduceLT, Nat.reduceLeDiff, Nat.reduceMul, Nat.reduceSub, BEq.rfl, beq_self_eq_true, Int.reduceToNat]
  (refine hK _ ?_)
  clear hK K
  refine AWP.ret ?_
  subst hR
  (simp only [en, si, ea, gv, sv, hk, reduceCtorEq, reduceIte, Nat.reduceBEq, Nat.reduceAdd, Nat.reduceEqDiff, Nat.reduceLT, Nat.reduceLeDiff, Nat.reduceMul, Nat.reduceSub, BEq.rfl, beq_self_eq_true, Int.reduceToNat]; done)
def D_spec_l03Day : DF
  | [x0] => some (.bool (spec_l03Day (rdI x0)), false, [wI .i64 x0])
  | _ => none
theorem D_spec_l03Day_ok : OkD Tryz.prog 123 D_spec_l03Day := by
  intro xs r z ob h ho
  unfold D_spec_l03Day at h
  split at h
  · simp only [Option.some.injEq, Prod.mk.injEq] at h
    obtain ⟨rfl, rfl, rfl⟩ := h
    obtain ⟨h0, _⟩ := ho
    exact Den.sim (spec_l03Day_den _ ) (simOL_cons (wI_sim h0).1 <| trivial) (noIdL_cons (wI_sim h0).2 <| rfl) rfl
  · cases h
end Go.Ab

namespace Go.Ab
open Go Go.Proofs
theorem spec_l29Entry_DD : DOk Tryz.prog (DD [(123, dP D_spec_l03Day), (124, dP D_spec_l01Name), (98, dP D_spec_l00In)]) := DD_cons D_spec_l03Day_ok.e <| DD_cons D_spec_l01Name_ok.e <| DD_cons D_spec_l00In_ok.e <| DD_nil _
def spec_l29Entry (a0 : Entry) : Bool :=
  ((((spec_l03Day a0.Day) && (spec_l01Name a0.Item)) && (spec_l00In a0.Amount (-1000) 1000)) && (a0.Amount != 0))
theorem spec_l29Entry_den (a0 : Entry)  : Den Tryz.prog 83 [.ep (eEntry a0)] (.bool (spec_l29Entry a0)) := by
  generalize hR : spec_l29Entry a0 = r
  unfold spec_l29Entry at hR
  refine den_intro G_ok Tryz.func83 (by kernel_rfl) rfl Tryz.ntmps83 (by rw [Tryz.results83]) (by simp) rfl ?_
  intro c hL hc hk
  obtain ⟨hL0, _⟩ := hL
  have hw0 : bwEntry a0 := Entry_lens a0 hL0
  clear hL0
  simp only [pars, Nat.zero_add]
  refine AWP.seq ?_
  refine AWP.regS G_ok spec_l29Entry_DD hc (by kernel_rfl) (fun K hK => ?_); simp only [ea, gv, sv, D_spec_l03Day, D_spec_l01Name, D_spec_l00In, reduceCtorEq, reduceIte, Nat.reduceBEq, Nat.reduceAdd, Nat.reduceEqDiff, Nat.reduceLT, Nat.reduceLeDiff, Nat.reduceMul, Nat.reduceSub, BEq.rfl, beq_self_eq_true, Int.reduceToNat]
  (refine hK _ ?_)
  clear hK K
  refine AWP.seq ?_
  refine AWP.regS G_ok spec_l29Entry_DD hc (by kernel_rfl) (fun K hK => ?_); simp only [ea, gv, sv, D_spec_l03Day, D_spec_l01Name, D_spec_l00In, reduceCtorEq, reduceIte, Nat.reduceBEq, Nat.reduceAdd, Nat.reduceEqDiff, Nat.reduceLT, Nat.reduceLeDiff, Nat.reduceMul, Nat.reduceSub, BEq.rfl, beq_self_eq_true, Int.reduceToNat]
  (refine hK _ ?_)
  clear hK K
  refine AWP.ret ?_
  subst hR
  (simp only [en, si, ea, gv, sv, hk, reduceCtorEq, reduceIte, Nat.reduceBEq, Nat.reduceAdd, Nat.reduceEqDiff, Nat.reduceLT, Nat.reduceLeDiff, Nat.reduceMul, Nat.reduceSub, BEq.rfl, beq_self_eq_true, Int.reduceToNat]; done)
def D_spec_l29Entry : DF
  | [x0] => some (.bool (spec_l29Entry (rdP dEntry x0)), false, [wP eEntry dEntry x0])
  | _ => none
theorem D_spec_l29Entry_ok : OkD Tryz.prog 83 D_spec_l29Entry := by
  intro xs r z ob h ho
  unfold D_spec_l29Entry at h
  split at h
  · simp only [Option.some.injEq, Prod.mk.injEq] at h
    obtain ⟨rfl, rfl, rfl⟩ := h
    obtain ⟨h0, _⟩ := ho
    exact Den.sim (spec_l29Entry_den _ ) (simOL_cons (wP_sim h0).1 <| trivial) (noIdL_cons (wP_sim h0).2 <| rfl) rfl
  · cases h
end Go.Ab

namespace Go.Ab
open Go Go.Proofs
def loopL {α ρ σ : Type} (g : α → σ → Except ρ σ) : List α → σ → Except ρ σ
  | [], s => .ok s
  | x :: t, s => match g x s with
    | .error r => .error r
    | .ok s' => loopL g t s'
theorem loopL_cons {α ρ σ : Type} (g : α → σ → Except ρ σ) (x : α) (t : List α) (s : σ) : loopL g (x :: t) s = match g x s with
    | .error r => .error r
    | .ok s' => loopL g t s' := rfl
theorem loopR_list {α ρ σ : Type} [Inhabited α] {b : Nat → σ → Except ρ σ} (g : α → σ → Except ρ σ) (l : List α) : ∀ (k i : Nat) (s : σ), i + k = l.length → (∀ j u, i ≤ j → j < l.length → b j u = g (l.getD j default) u) → loopR b k i s = loopL g (l.drop i) s
  | 0, i, s, h, _ => by rw [List.drop_eq_nil_of_le (by omega)]; rfl
  | k + 1, i, s, h, hb => by
    have hi : i < l.length := by omega
    rw [List.drop_eq_getElem_cons hi]
    simp only [loopR, loopL]
    rw [hb i s (Nat.le_refl _) hi, List.getD_eq_getElem?_getD, List.getElem?_eq_getElem hi, Option.getD_some]
    cases g l[i] s with
    | error r => rfl
    | ok s' => exact loopR_list g l k (i + 1) s' (by omega) (fun j u h1 h2 => hb j u (by omega) h2)
theorem loopR_list0 {α ρ σ : Type} [Inhabited α] {b : Nat → σ → Except ρ σ} (g : α → σ → Except ρ σ) (l : List α) (s : σ) (hb : ∀ j u, j < l.length → b j u = g (l.getD j default) u) : loopR b (l.length - 0) 0 s = loopL g l s := by
  rw [loopR_list g l (l.length - 0) 0 s (by omega) (fun j u _ h => hb j u h), List.drop_zero]
theorem loopR_all {ρ : Type} {b : Nat → Unit → Except ρ Unit} (p : Nat → Bool) (r : ρ) (n : Nat) (hb : ∀ j u, j < n → b j u = bif p j then .error r else .ok ()) :
    ((∀ q, q < n → p q = false) ∧ loopR b (n - 0) 0 () = .ok ()) ∨ ((∃ q, q < n ∧ p q = true) ∧ loopR b (n - 0) 0 () = .error r) := by
  rcases loopR_first (b := b) p (fun _ => r) (k := n - 0) (i := 0) (s := ()) (fun j u _ h => hb j u (by omega)) with ⟨j, h1, h2, h3, h4, h5⟩ | ⟨h1, h2⟩
  · exact .inr ⟨⟨j, by omega, h3⟩, h5⟩
  · exact .inl ⟨fun q hq => h1 q (by omega) (by omega), h2⟩
theorem loopW_upto {ρ : Type} {b : Int → Except (Sum ρ Int) Int} (p : Nat → Bool) (n : Nat) (hb : ∀ j : Nat, j ≤ n → b (j : Int) = bif (decide (j < n) && p j) then .ok ((j + 1 : Nat) : Int) else .error (.inr (j : Int))) :
    ∀ (f i : Nat), i ≤ n → n - i < f → ∃ j, i ≤ j ∧ j ≤ n ∧ (∀ q, i ≤ q → q < j → p q = true) ∧ (j = n ∨ p j = false) ∧ loopW b f (i : Int) = .error (.inr (j : Int))
  | 0, i, h1, h2 => by omega
  | f + 1, i, h1, h2 => by
    simp only [loopW, hb i h1]
    cases hc : (decide (i < n) && p i) with
    | false =>
      refine ⟨i, Nat.le_refl _, h1, fun q a b => by omega, ?_, rfl⟩
      by_cases hi : i < n
      · right; simpa [hi] using hc
      · left; omega
    | true =>
      simp only [Bool.and_eq_true, decide_eq_true_eq] at hc
      obtain ⟨j, g1, g2, g3, g4, g5⟩ := loopW_upto p n hb f (i + 1) hc.1 (by omega)
      refine ⟨j, by omega, g2, fun q a b => ?_, g4, by simpa using g5⟩
      by_cases hq : q = i
      · rw [hq]; exact hc.2
      · exact g3 q (by omega) b
theorem wrap_nat {j n : Nat} (h : j < n) (hn : n < 9223372036854775808) : IntKind.wrap .i64 ((j : Int) + 1) = ((j + 1 : Nat) : Int) := by
  rw [IntKind.wrap_i64]; omega
theorem wrap_pred {j : Nat} (h : 0 < j) (hn : j < 9223372036854775808) : (IntKind.wrap .i64 ((j : Int) - 1)).toNat = j - 1 := by
  rw [IntKind.wrap_i64]; omega
theorem less_irrefl : ∀ a : List UInt8, Op.bytesLess a a = false
  | [] => rfl
  | x :: a => by simp [Op.bytesLess, less_irrefl a]
theorem less_trans : ∀ a b c : List UInt8, Op.bytesLess a b = true → Op.bytesLess b c = true → Op.bytesLess a c = true
  | _, _, [], _, h => by simp [Op.bytesLess] at h
  | _, [], _ :: _, h, _ => by simp [Op.bytesLess] at h
  | [], _ :: _, _ :: _, _, _ => rfl
  | x :: a, y :: b, z :: c, h1, h2 => by
    simp only [Op.bytesLess, Bool.or_eq_true, Bool.and_eq_true, decide_eq_true_eq, beq_iff_eq] at h1 h2 ⊢
    rcases h1 with h1 | ⟨h1, h1'⟩ <;> rcases h2 with h2 | ⟨h2, h2'⟩
    · left; exact UInt8.lt_trans h1 h2
    · left; rw [← h2]; exact h1
    · left; rw [h1]; exact h2
    · right; exact ⟨h1.trans h2, less_trans a b c h1' h2'⟩
end Go.Ab

namespace Go.Ab
open Go Go.Proofs
theorem spec_l29Find_spec (a : Store) (k : List UInt8) : (∃ j : Nat, j < a.Spares.length ∧ (a.Spares.getD j default).Name = k ∧ (∀ q, q < j → (a.Spares.getD q default).Name ≠ k) ∧ spec_l29Find a k = (j : Int)) ∨
    ((∀ q, q < a.Spares.length → (a.Spares.getD q default).Name ≠ k) ∧ spec_l29Find a k = -1) := by
  unfold spec_l29Find
  rcases loopR_first (b := spec_l29Find_b1 a k) (fun j => ((a.Spares.getD j default).Name == k)) (fun j => (j : Int)) (k := a.Spares.length - 0) (i := 0) (s := ()) (fun j u _ _ => by simp only [spec_l29Find_b1]) with ⟨j, _, h2, h3, h4, h5⟩ | ⟨h1, h2⟩
  · refine .inl ⟨j, by omega, by simpa using h3, fun q hq => by simpa using h4 q (by omega) hq, ?_⟩
    rw [h5]
  · refine .inr ⟨fun q hq => by simpa using h1 q (by omega) (by omega), ?_⟩
    rw [h2]
theorem spec_l29Find_lt (a : Store) (k : List UInt8) : -1 ≤ spec_l29Find a k ∧ (0 ≤ spec_l29Find a k → spec_l29Find a k < a.Spares.length) := by
  rcases spec_l29Find_spec a k with ⟨j, g1, _, _, g2⟩ | ⟨_, g2⟩
  · rw [g2]; omega
  · rw [g2]; omega
end Go.Ab

namespace Go.Ab
open Go Go.Proofs
theorem spec_l29Ok_DD : DOk Tryz.prog (DD [(143, dP D_spec_l29Item), (144, dP D_spec_l29Find), (145, dP D_spec_l29Flow), (83, dP D_spec_l29Entry)]) := DD_cons D_spec_l29Item_ok.e <| DD_cons D_spec_l29Find_ok.e <| DD_cons D_spec_l29Flow_ok.e <| DD_cons D_spec_l29Entry_ok.e <| DD_nil _
def spec_l29Ok_b1 (a0 : Store) (i1 : Nat) (s1 : Unit) : Except (Bool) (Unit) :=
  (bif ((!(spec_l29Item (a0.Spares.getD i1 default))) || (decide (0 < (i1 : Int)) && !(Op.bytesLess ((a0.Spares.getD ((IntKind.wrap .i64 ((i1 : Int) - 1)).toNat) default).Name) ((a0.Spares.getD i1 default).Name)))) then .error false else .ok ())
def spec_l29Ok_b2 (a0 : Store) (s1 : Unit) (i2 : Nat) (s2 : Unit) : Except (Bool) (Unit) :=
  (bif (((!(spec_l29Entry (a0.Entries.getD i2 default))) || decide ((spec_l29Find a0 ((a0.Entries.getD i2 default).Item)) < 0)) || (decide (0 < (i2 : Int)) && decide (((a0.Entries.getD i2 default).Day) < ((a0.Entries.getD ((IntKind.wrap .i64 ((i2 : Int) - 1)).toNat) default).Day)))) then .error false else .ok ())
def spec_l29Ok_b3 (a0 : Store) (s1 : Unit) (s2 : Unit) (i3 : Nat) (s3 : Unit) : Except (Bool) (Unit) :=
  (bif (!(spec_l29Flow a0 (i3 : Int))) then .error false else .ok ())
def spec_l29Ok (a0 : Store) : Bool :=
  (bif (decide (16 < (a0.Spares.length : Int)) || decide (48 < (a0.Entries.length : Int))) then false else (match loopR (spec_l29Ok_b1 a0) (a0.Spares.length - 0) 0 () with | .error e => e | .ok s1 => (match loopR (spec_l29Ok_b2 a0 s1) (a0.Entries.length - 0) 0 () with | .error e => e | .ok s2 => (match loopR (spec_l29Ok_b3 a0 s1 s2) (a0.Spares.length - 0) 0 () with | .error e => e | .ok s3 => true))))
theorem spec_l29Ok_den (a0 : Store)  : Den Tryz.prog 100 [.ep (eStore a0)] (.bool (spec_l29Ok a0)) := by
  generalize hR : spec_l29Ok a0 = r
  unfold spec_l29Ok at hR
  refine den_intro G_ok Tryz.func100 (by kernel_rfl) rfl Tryz.ntmps100 (by rw [Tryz.results100]) (by simp) rfl ?_
  intro c hL hc hk
  obtain ⟨hL0, _⟩ := hL
  have hw0 : bwStore a0 := Store_lens a0 hL0
  clear hL0
  simp only [pars, Nat.zero_add]
  refine AWP.seq ?_
  refine AWP.regS G_ok spec_l29Ok_DD hc (by kernel_rfl) (fun K hK => ?_); simp only [ea, gv, sv, D_spec_l29Item, D_spec_l29Find, D_spec_l29Flow, D_spec_l29Entry, reduceCtorEq, reduceIte, Nat.reduceBEq, Nat.reduceAdd, Nat.reduceEqDiff, Nat.reduceLT, Nat.reduceLeDiff, Nat.reduceMul, Nat.reduceSub, BEq.rfl, beq_self_eq_true, Int.reduceToNat]
  (refine hK _ ?_)
  clear hK K
  refine AWP.seq ?_
  refine AWP.seq ?_
  refine AWP.regS G_ok spec_l29Ok_DD hc (by kernel_rfl) (fun K hK => ?_); simp only [ea, gv, sv, D_spec_l29Item, D_spec_l29Find, D_spec_l29Flow, D_spec_l29Entry, reduceCtorEq, reduceIte, Nat.reduceBEq, Nat.reduceAdd, Nat.reduceEqDiff, Nat.reduceLT, Nat.reduceLeDiff, Nat.reduceMul, Nat.reduceSub, BEq.rfl, beq_self_eq_true, Int.reduceToNat]
  (refine hK _ ?_)
  clear hK K
  refine AWP.cond rfl (fun hb => ?_) (fun hb => ?_)
  · (simp only [hb, cond_true] at hR)
    refine AWP.seq ?_
    refine AWP.regS G_ok spec_l29Ok_DD hc (by kernel_rfl) (fun K hK => ?_); simp only [ea, gv, sv, D_spec_l29Item, D_spec_l29Find, D_spec_l29Flow, D_spec_l29Entry, reduceCtorEq, reduceIte, Nat.reduceBEq, Nat.reduceAdd, Nat.reduceEqDiff, Nat.reduceLT, Nat.reduceLeDiff, Nat.reduceMul, Nat.reduceSub, BEq.rfl, beq_self_eq_true, Int.reduceToNat]
    (refine hK _ ?_)
    clear hK K
    refine AWP.ret ?_
    subst hR
    (simp only [en, si, ea, gv, sv, hk, reduceCtorEq, reduceIte, Nat.reduceBEq, Nat.reduceAdd, Nat.reduceEqDiff, Nat.reduceLT, Nat.reduceLeDiff, Nat.reduceMul, Nat.reduceSub, BEq.rfl, beq_self_eq_true, Int.reduceToNat]; done)
  · (simp only [hb, cond_false] at hR)
    refine AWP.skip ?_
    refine AWP.seq ?_
    refine AWP.seq ?_
    refine AWP.regS G_ok spec_l29Ok_DD hc (by kernel_rfl) (fun K hK => ?_); simp only [ea, gv, sv, D_spec_l29Item, D_spec_l29Find, D_spec_l29Flow, D_spec_l29Entry, reduceCtorEq, reduceIte, Nat.reduceBEq, Nat.reduceAdd, Nat.reduceEqDiff, Nat.reduceLT, Nat.reduceLeDiff, Nat.reduceMul, Nat.reduceSub, BEq.rfl, beq_self_eq_true, Int.reduceToNat]
    (refine hK _ ?_)
    clear hK K
    refine AWP.block ?_
    refine AWP.lensS 9 rfl (fun hLn1 => ?_)
    generalize hz1 : loopR (spec_l29Ok_b1 a0) (a0.Spares.length - 0) 0 () = z1 at hR
    refine AWP.range (spec_l29Ok_b1 a0) (fun i1 s1 => ⟨[(0, .ep (eStore a0)), (3, .int .i64 (i1 : Int))], []⟩) (fun i1 s1 => True) (a0.Spares.length) 0 () [] hz1 (by (omega)) (by (trivial)) (by (simp only [si, ea, gv, sv, hk, reduceCtorEq, reduceIte, Nat.reduceBEq, Nat.reduceAdd, Nat.reduceEqDiff, Nat.reduceLT, Nat.reduceLeDiff, Nat.reduceMul, Nat.reduceSub, BEq.rfl, beq_self_eq_true, Int.reduceToNat]; trivial)) ?_
    clear hz1
    intro i1 s1 hi1 hW1 hz1
    refine AWP.seq ?_
    refine AWP.seq ?_
    refine AWP.regS G_ok spec_l29Ok_DD hc (by kernel_rfl) (fun K hK => ?_); simp only [ea, gv, sv, D_spec_l29Item, D_spec_l29Find, D_spec_l29Flow, D_spec_l29Entry, reduceCtorEq, reduceIte, Nat.reduceBEq, Nat.reduceAdd, Nat.reduceEqDiff, Nat.reduceLT, Nat.reduceLeDiff, Nat.reduceMul, Nat.reduceSub, BEq.rfl, beq_self_eq_true, Int.reduceToNat]
    (refine hK _ ?_)
    clear hK K
    refine AWP.cond rfl (fun hb => ?_) (fun hb => ?_)
    · have hlt1 : i1 < a0.Spares.length := by ((simp only [ob, ln, bdv, sv] at *; omega))
      rw [loopR_lt hlt1] at hz1; simp only [spec_l29Ok_b1] at hz1
      refine AWP.skip ?_
      refine AWP.seq ?_
      refine AWP.block ?_
      refine AWP.seq ?_
      refine AWP.regD mixed G_ok spec_l29Ok_DD hc 32 (by kernel_rfl) (by kernel_rfl) (fun K hK => ?_); simp only [ea, gv, sv, D_spec_l29Item, D_spec_l29Find, D_spec_l29Flow, D_spec_l29Entry, reduceCtorEq, reduceIte, Nat.reduceBEq, Nat.reduceAdd, Nat.reduceEqDiff, Nat.reduceLT, Nat.reduceLeDiff, Nat.reduceMul, Nat.reduceSub, BEq.rfl, beq_self_eq_true, Int.reduceToNat]
      (refine ⟨by ((simp only [ob, ln, bdv, sv] at *; omega)), hK _ ?_⟩)
      clear hK K
      refine AWP.cond rfl (fun hb => ?_) (fun hb => ?_)
      · (simp only [hb, cond_true] at hz1)
        refine AWP.seq ?_
        refine AWP.regS G_ok spec_l29Ok_DD hc (by kernel_rfl) (fun K hK => ?_); simp only [ea, gv, sv, D_spec_l29Item, D_spec_l29Find, D_spec_l29Flow, D_spec_l29Entry, reduceCtorEq, reduceIte, Nat.reduceBEq, Nat.reduceAdd, Nat.reduceEqDiff, Nat.reduceLT, Nat.reduceLeDiff, Nat.reduceMul, Nat.reduceSub, BEq.rfl, beq_self_eq_true, Int.reduceToNat]
        (refine hK _ ?_)
        clear hK K
        refine AWP.ret ?_
        subst hz1
        dsimp only at hR
        subst hR
        (simp only [en, si, ea, gv, sv, hk, reduceCtorEq, reduceIte, Nat.reduceBEq, Nat.reduceAdd, Nat.reduceEqDiff, Nat.reduceLT, Nat.reduceLeDiff, Nat.reduceMul, Nat.reduceSub, BEq.rfl, beq_self_eq_true, Int.reduceToNat]; done)
      · (simp only [hb, cond_false] at hz1)
        refine AWP.skip ?_
        refine AWP.regS G_ok spec_l29Ok_DD hc (by kernel_rfl) (fun K hK => ?_); simp only [ea, gv, sv, D_spec_l29Item, D_spec_l29Find, D_spec_l29Flow, D_spec_l29Entry, reduceCtorEq, reduceIte, Nat.reduceBEq, Nat.reduceAdd, Nat.reduceEqDiff, Nat.reduceLT, Nat.reduceLeDiff, Nat.reduceMul, Nat.reduceSub, BEq.rfl, beq_self_eq_true, Int.reduceToNat]
        (refine hK _ ?_)
        clear hK K
        exact ⟨_, [], hlt1, by (trivial), hz1, by (simp only [si, ea, gv, sv, hk, reduceCtorEq, reduceIte, Nat.reduceBEq, Nat.reduceAdd, Nat.reduceEqDiff, Nat.reduceLT, Nat.reduceLeDiff, Nat.reduceMul, Nat.reduceSub, BEq.rfl, beq_self_eq_true, Int.reduceToNat]; (and_intros <;> first | trivial | (rw [IntKind.wrap_i64]; omega)))⟩
    · obtain rfl : i1 = a0.Spares.length := by ((simp only [ob, ln, bdv, sv] at *; omega))
      rw [loopR_ge (Nat.le_refl _)] at hz1; subst hz1; dsimp only at hR
      refine AWP.exit ?_; refine exitTo_here ?_
      refine AWP.seq ?_
      refine AWP.seq ?_
      refine AWP.regS G_ok spec_l29Ok_DD hc (by kernel_rfl) (fun K hK => ?_); simp only [ea, gv, sv, D_spec_l29Item, D_spec_l29Find, D_spec_l29Flow, D_spec_l29Entry, reduceCtorEq, reduceIte, Nat.reduceBEq, Nat.reduceAdd, Nat.reduceEqDiff, Nat.reduceLT, Nat.reduceLeDiff, Nat.reduceMul, Nat.reduceSub, BEq.rfl, beq_self_eq_true, Int.reduceToNat]
      (refine hK _ ?_)
      clear hK K
      refine AWP.block ?_
      generalize hz2 : loopR (spec_l29Ok_b2 a0 s1) (a0.Entries.length - 0) 0 () = z2 at hR
      refine AWP.range (spec_l29Ok_b2 a0 s1) (fun i2 s2 => ⟨[(0, .ep (eStore a0)), (4, .int .i64 (i2 : Int))], []⟩) (fun i2 s2 => True) (a0.Entries.length) 0 () [] hz2 (by (omega)) (by (trivial)) (by (simp only [si, ea, gv, sv, hk, reduceCtorEq, reduceIte, Nat.reduceBEq, Nat.reduceAdd, Nat.reduceEqDiff, Nat.reduceLT, Nat.reduceLeDiff, Nat.reduceMul, Nat.reduceSub, BEq.rfl, beq_self_eq_true, Int.reduceToNat]; trivial)) ?_
      clear hz2
      intro i2 s2 hi2 hW2 hz2
      refine AWP.seq ?_
      refine AWP.seq ?_
      refine AWP.regS G_ok spec_l29Ok_DD hc (by kernel_rfl) (fun K hK => ?_); simp only [ea, gv, sv, D_spec_l29Item, D_spec_l29Find, D_spec_l29Flow, D_spec_l29Entry, reduceCtorEq, reduceIte, Nat.reduceBEq, Nat.reduceAdd, Nat.reduceEqDiff, Nat.reduceLT, Nat.reduceLeDiff, Nat.reduceMul, Nat.reduceSub, BEq.rfl, beq_self_eq_true, Int.reduceToNat]
      (refine hK _ ?_)
      clear hK K
      refine AWP.cond rfl (fun hb => ?_) (fun hb => ?_)
      · have hlt2 : i2 < a0.Entries.length := by ((simp only [ob, ln, bdv, sv] at *; omega))
        rw [loopR_lt hlt2] at hz2; simp only [spec_l29Ok_b2] at hz2
        refine AWP.skip ?_
        refine AWP.seq ?_
        refine AWP.block ?_
        refine AWP.seq ?_
        refine AWP.regD mixed G_ok spec_l29Ok_DD hc 45 (by kernel_rfl) (by kernel_rfl) (fun K hK => ?_); simp only [ea, gv, sv, D_spec_l29Item, D_spec_l29Find, D_spec_l29Flow, D_spec_l29Entry, reduceCtorEq, reduceIte, Nat.reduceBEq, Nat.reduceAdd, Nat.reduceEqDiff, Nat.reduceLT, Nat.reduceLeDiff, Nat.reduceMul, Nat.reduceSub, BEq.rfl, beq_self_eq_true, Int.reduceToNat]
        (refine ⟨by ((simp only [ob, ln, bdv, sv] at *; omega)), hK _ ?_⟩)
        clear hK K
        refine AWP.cond rfl (fun hb => ?_) (fun hb => ?_)
        · (simp only [hb, cond_true] at hz2)
          refine AWP.seq ?_
          refine AWP.regS G_ok spec_l29Ok_DD hc (by kernel_rfl) (fun K hK => ?_); simp only [ea, gv, sv, D_spec_l29Item, D_spec_l29Find, D_spec_l29Flow, D_spec_l29Entry, reduceCtorEq, reduceIte, Nat.reduceBEq, Nat.reduceAdd, Nat.reduceEqDiff, Nat.reduceLT, Nat.reduceLeDiff, Nat.reduceMul, Nat.reduceSub, BEq.rfl, beq_self_eq_true, Int.reduceToNat]
          (refine hK _ ?_)
          clear hK K
          refine AWP.ret ?_
          subst hz2
          dsimp only at hR
          subst hR
          (simp only [en, si, ea, gv, sv, hk, reduceCtorEq, reduceIte, Nat.reduceBEq, Nat.reduceAdd, Nat.reduceEqDiff, Nat.reduceLT, Nat.reduceLeDiff, Nat.reduceMul, Nat.reduceSub, BEq.rfl, beq_self_eq_true, Int.reduceToNat]; done)
        · (simp only [hb, cond_false] at hz2)
          refine AWP.skip ?_
          refine AWP.regS G_ok spec_l29Ok_DD hc (by kernel_rfl) (fun K hK => ?_); simp only [ea, gv, sv, D_spec_l29Item, D_spec_l29Find, D_spec_l29Flow, D_spec_l29Entry, reduceCtorEq, reduceIte, Nat.reduceBEq, Nat.reduceAdd, Nat.reduceEqDiff, Nat.reduceLT, Nat.reduceLeDiff, Nat.reduceMul, Nat.reduceSub, BEq.rfl, beq_self_eq_true, Int.reduceToNat]
          (refine hK _ ?_)
          clear hK K
          exact ⟨_, [], hlt2, by (trivial), hz2, by (simp only [si, ea, gv, sv, hk, reduceCtorEq, reduceIte, Nat.reduceBEq, Nat.reduceAdd, Nat.reduceEqDiff, Nat.reduceLT, Nat.reduceLeDiff, Nat.reduceMul, Nat.reduceSub, BEq.rfl, beq_self_eq_true, Int.reduceToNat]; (and_intros <;> first | trivial | (simp only [ob, ln, bdv, sv] at *; omega)))⟩
      · obtain rfl : i2 = a0.Entries.length := by ((simp only [ob, ln, bdv, sv] at *; omega))
        rw [loopR_ge (Nat.le_refl _)] at hz2; subst hz2; dsimp only at hR
        refine AWP.exit ?_; refine exitTo_here ?_
        refine AWP.seq ?_
        refine AWP.seq ?_
        refine AWP.regS G_ok spec_l29Ok_DD hc (by kernel_rfl) (fun K hK => ?_); simp only [ea, gv, sv, D_spec_l29Item, D_spec_l29Find, D_spec_l29Flow, D_spec_l29Entry, reduceCtorEq, reduceIte, Nat.reduceBEq, Nat.reduceAdd, Nat.reduceEqDiff, Nat.reduceLT, Nat.reduceLeDiff, Nat.reduceMul, Nat.reduceSub, BEq.rfl, beq_self_eq_true, Int.reduceToNat]
        (refine hK _ ?_)
        clear hK K
        refine AWP.block ?_
        generalize hz3 : loopR (spec_l29Ok_b3 a0 s1 s2) (a0.Spares.length - 0) 0 () = z3 at hR
        refine AWP.range (spec_l29Ok_b3 a0 s1 s2) (fun i3 s3 => ⟨[(0, .ep (eStore a0)), (5, .int .i64 (i3 : Int))], []⟩) (fun i3 s3 => True) (a0.Spares.length) 0 () [] hz3 (by (omega)) (by (trivial)) (by (simp only [si, ea, gv, sv, hk, reduceCtorEq, reduceIte, Nat.reduceBEq, Nat.reduceAdd, Nat.reduceEqDiff, Nat.reduceLT, Nat.reduceLeDiff, Nat.reduceMul, Nat.reduceSub, BEq.rfl, beq_self_eq_true, Int.reduceToNat]; trivial)) ?_
        clear hz3
        intro i3 s3 hi3 hW3 hz3
        refine AWP.seq ?_
        refine AWP.seq ?_
        refine AWP.regS G_ok spec_l29Ok_DD hc (by kernel_rfl) (fun K hK => ?_); simp only [ea, gv, sv, D_spec_l29Item, D_spec_l29Find, D_spec_l29Flow, D_spec_l29Entry, reduceCtorEq, reduceIte, Nat.reduceBEq, Nat.reduceAdd, Nat.reduceEqDiff, Nat.reduceLT, Nat.reduceLeDiff, Nat.reduceMul, Nat.reduceSub, BEq.rfl, beq_self_eq_true, Int.reduceToNat]
        (refine hK _ ?_)
        clear hK K
        refine AWP.cond rfl (fun hb => ?_) (fun hb => ?_)
        · have hlt3 : i3 < a0.Spares.length := by ((simp only [ob, ln, bdv, sv] at *; omega))
          rw [loopR_lt hlt3] at hz3; simp only [spec_l29Ok_b3] at hz3
          refine AWP.skip ?_
          refine AWP.seq ?_
          refine AWP.block ?_
          refine AWP.seq ?_
          refine AWP.regS G_ok spec_l29Ok_DD hc (by kernel_rfl) (fun K hK => ?_); simp only [ea, gv, sv, D_spec_l29Item, D_spec_l29Find, D_spec_l29Flow, D_spec_l29Entry, reduceCtorEq, reduceIte, Nat.reduceBEq, Nat.reduceAdd, Nat.reduceEqDiff, Nat.reduceLT, Nat.reduceLeDiff, Nat.reduceMul, Nat.reduceSub, BEq.rfl, beq_self_eq_true, Int.reduceToNat]
          (refine ⟨by (omega), hK _ ?_⟩)
          clear hK K
          refine AWP.cond rfl (fun hb => ?_) (fun hb => ?_)
          · (simp only [hb, cond_true] at hz3)
            refine AWP.seq ?_
            refine AWP.regS G_ok spec_l29Ok_DD hc (by kernel_rfl) (fun K hK => ?_); simp only [ea, gv, sv, D_spec_l29Item, D_spec_l29Find, D_spec_l29Flow, D_spec_l29Entry, reduceCtorEq, reduceIte, Nat.reduceBEq, Nat.reduceAdd, Nat.reduceEqDiff, Nat.reduceLT, Nat.reduceLeDiff, Nat.reduceMul, Nat.reduceSub, BEq.rfl, beq_self_eq_true, Int.reduceToNat]
            (refine hK _ ?_)
            clear hK K
            refine AWP.ret ?_
            subst hz3
            dsimp only at hR
            subst hR
            (simp only [en, si, ea, gv, sv, hk, reduceCtorEq, reduceIte, Nat.reduceBEq, Nat.reduceAdd, Nat.reduceEqDiff, Nat.reduceLT, Nat.reduceLeDiff, Nat.reduceMul, Nat.reduceSub, BEq.rfl, beq_self_eq_true, Int.reduceToNat]; done)
          · (simp only [hb, cond_false] at hz3)
            refine AWP.skip ?_
            refine AWP.regS G_ok spec_l29Ok_DD hc (by kernel_rfl) (fun K hK => ?_); simp only [ea, gv, sv, D_spec_l29Item, D_spec_l29Find, D_spec_l29Flow, D_spec_l29Entry, reduceCtorEq, reduceIte, Nat.reduceBEq, Nat.reduceAdd, Nat.reduceEqDiff, Nat.reduceLT, Nat.reduceLeDiff, Nat.reduceMul, Nat.reduceSub, BEq.rfl, beq_self_eq_true, Int.reduceToNat]
            (refine hK _ ?_)
            clear hK K
            exact ⟨_, [], hlt3, by (trivial), hz3, by (simp only [si, ea, gv, sv, hk, reduceCtorEq, reduceIte, Nat.reduceBEq, Nat.reduceAdd, Nat.reduceEqDiff, Nat.reduceLT, Nat.reduceLeDiff, Nat.reduceMul, Nat.reduceSub, BEq.rfl, beq_self_eq_true, Int.reduceToNat]; (and_intros <;> first | trivial | (rw [IntKind.wrap_i64]; omega)))⟩
        · obtain rfl : i3 = a0.Spares.length := by ((simp only [ob, ln, bdv, sv] at *; omega))
          rw [loopR_ge (Nat.le_refl _)] at hz3; subst hz3; dsimp only at hR
          refine AWP.exit ?_; refine exitTo_here ?_
          refine AWP.seq ?_
          refine AWP.regS G_ok spec_l29Ok_DD hc (by kernel_rfl) (fun K hK => ?_); simp only [ea, gv, sv, D_spec_l29Item, D_spec_l29Find, D_spec_l29Flow, D_spec_l29Entry, reduceCtorEq, reduceIte, Nat.reduceBEq, Nat.reduceAdd, Nat.reduceEqDiff, Nat.reduceLT, Nat.reduceLeDiff, Nat.reduceMul, Nat.reduceSub, BEq.rfl, beq_self_eq_true, Int.reduceToNat]
          (refine hK _ ?_)
          clear hK K
          refine AWP.ret ?_
          subst hR
          (simp only [en, si, ea, gv, sv, hk, reduceCtorEq, reduceIte, Nat.reduceBEq, Nat.reduceAdd, Nat.reduceEqDiff, Nat.reduceLT, Nat.reduceLeDiff, Nat.reduceMul, Nat.reduceSub, BEq.rfl, beq_self_eq_true, Int.reduceToNat]; done)
def D_spec_l29Ok : DF
  | [x0] => some (.bool (spec_l29Ok (rdP dStore x0)), false, [wP eStore dStore x0])
  | _ => none
theorem D_spec_l29Ok_ok : OkD Tryz.prog 100 D_spec_l29Ok := by
  intro xs r z ob h ho
  unfold D_spec_l29Ok at h
  split at h
  · simp only [Option.some.injEq, Prod.mk.injEq] at h
    obtain ⟨rfl, rfl, rfl⟩ := h
    obtain ⟨h0, _⟩ := ho
    exact Den.sim (spec_l29Ok_den _ ) (simOL_cons (wP_sim h0).1 <| trivial) (noIdL_cons (wP_sim h0).2 <| rfl) rfl
  · cases h
end Go.Ab

namespace Go.Ab
open Go Go.Proofs
theorem spec_l29Own_DD : DOk Tryz.prog (DD []) := DD_nil _
def spec_l29Own (a0 : Store) : Store :=
  { Spares := ([] : List Spare) ++ a0.Spares, Entries := ([] : List Entry) ++ a0.Entries : Store }
theorem spec_l29Own_den (a0 : Store) (hb0 : bdStore a0) : Den Tryz.prog 184 [.ep (eStore a0)] (.agg (eStoreO (spec_l29Own a0))) := by
  generalize hR : spec_l29Own a0 = r
  unfold spec_l29Own at hR
  refine den_intro G_ok Tryz.func184 (by kernel_rfl) rfl Tryz.ntmps184 (by rw [Tryz.results184]) (by simp) rfl ?_
  intro c hL hc hk
  obtain ⟨hL0, _⟩ := hL
  have hw0 : bwStore a0 := Store_lens a0 hL0
  clear hL0
  simp only [pars, Nat.zero_add]
  refine AWP.seq ?_
  refine AWP.regS G_ok spec_l29Own_DD hc (by kernel_rfl) (fun K hK => ?_); simp only [ea, gv, sv, reduceCtorEq, reduceIte, Nat.reduceBEq, Nat.reduceAdd, Nat.reduceEqDiff, Nat.reduceLT, Nat.reduceLeDiff, Nat.reduceMul, Nat.reduceSub, BEq.rfl, beq_self_eq_true, Int.reduceToNat]
  (refine hK _ ?_)
  clear hK K
  refine AWP.seq ?_
  refine AWP.regP mixed G_ok spec_l29Own_DD hc 13 [1, 2, 3, 4, 7, 8, 9, 10] (.alt 0 [] [1, 2, 3, 4, 7, 8, 9, 10] (.alt 5 [] [7, 8, 9, 10] (.alt 6 [] [7, 8, 9, 10] (.alt 11 [12] [12] .leaf .stop) .stop) (.alt 6 [] [1, 2, 3, 4, 7, 8, 9, 10] (.alt 5 [] [7, 8, 9, 10] (.alt 11 [12] [12] .leaf .stop) .stop) .stop)) (.alt 6 [] [1, 2, 3, 4, 7, 8, 9, 10] (.alt 0 [] [1, 2, 3, 4, 7, 8, 9, 10] (.alt 5 [] [7, 8, 9, 10] (.alt 11 [12] [12] .leaf .stop) .stop) .stop) .stop)) (by kernel_rfl) (by kernel_rfl) (by kernel_rfl) (fun K hK => ?_)
  refine join_sim ⟨[(2, .ptr 0 0)], [.box [.ref 1 3 0 (0 + a0.Spares.length), .ref 2 3 0 (0 + a0.Entries.length)], .arr 30 3 (([] : List Spare) ++ a0.Spares).length (fun j => eSpare ((([] : List Spare) ++ a0.Spares).getD j default)), .arr 33 3 (([] : List Entry) ++ a0.Entries).length (fun j => eEntry ((([] : List Entry) ++ a0.Entries).getD j default))]⟩ hK ?_ (fun hJ => ?_)
  rotate_left
  · simp only [rootP, runN, runP, recheck, nthO, ea, gv, sv, reduceCtorEq, reduceIte, Nat.reduceBEq, Nat.reduceAdd, Nat.reduceEqDiff, Nat.reduceLT, Nat.reduceLeDiff, Nat.reduceMul, Nat.reduceSub, BEq.rfl, beq_self_eq_true, Int.reduceToNat]
    repeat' apply And.intro
    all_goals first | (refine hJ _ [0, 2, 4] ?_; (simp only [si, ea, gv, sv, hk, reduceCtorEq, reduceIte, Nat.reduceBEq, Nat.reduceAdd, Nat.reduceEqDiff, Nat.reduceLT, Nat.reduceLeDiff, Nat.reduceMul, Nat.reduceSub, BEq.rfl, beq_self_eq_true, Int.reduceToNat]; (and_intros <;> first | trivial | (intro j hj; simp only [pw, Bool.cond_eq_ite, Bool.and_eq_true, decide_eq_true_eq]; (try rw [subL_getD _ _ _ _ (by assumption)]); (try rw [clearL_getD _ _ _ _ (by omega)]); (repeat' split) <;> first | rfl | omega)))) | (refine hJ _ [0, 3, 4] ?_; (simp only [si, ea, gv, sv, hk, reduceCtorEq, reduceIte, Nat.reduceBEq, Nat.reduceAdd, Nat.reduceEqDiff, Nat.reduceLT, Nat.reduceLeDiff, Nat.reduceMul, Nat.reduceSub, BEq.rfl, beq_self_eq_true, Int.reduceToNat]; (and_intros <;> first | trivial | (intro j hj; simp only [pw, Bool.cond_eq_ite, Bool.and_eq_true, decide_eq_true_eq]; (try rw [subL_getD _ _ _ _ (by assumption)]); (try rw [clearL_getD _ _ _ _ (by omega)]); (repeat' split) <;> first | rfl | omega)))) | ((simp only [ob, ln, bdv, sv] at *; omega))
  clear hK K
  refine AWP.ret ?_
  subst hR
  (simp only [en, si, ea, gv, sv, hk, reduceCtorEq, reduceIte, Nat.reduceBEq, Nat.reduceAdd, Nat.reduceEqDiff, Nat.reduceLT, Nat.reduceLeDiff, Nat.reduceMul, Nat.reduceSub, BEq.rfl, beq_self_eq_true, Int.reduceToNat]; (and_intros <;> omega))
def D_spec_l29Own : DF
  | [x0] => some (.agg (eStoreO (spec_l29Own (rdP dStore x0))), false, [wP eStore dStore x0, bdStore (rdP dStore x0)])
  | _ => none
def Dz_spec_l29Own : DF
  | [x0] => some (.agg (eStoreO (spec_l29Own (rdP dStore x0))), true, [wP eStore dStore x0, bdStore (rdP dStore x0)])
  | _ => none
theorem D_spec_l29Own_ok : OkD Tryz.prog 184 D_spec_l29Own := by
  intro xs r z ob h ho
  unfold D_spec_l29Own at h
  split at h
  · simp only [Option.some.injEq, Prod.mk.injEq] at h
    obtain ⟨rfl, rfl, rfl⟩ := h
    obtain ⟨h0, hb0, _⟩ := ho
    exact Den.sim (spec_l29Own_den _ hb0) (simOL_cons (wP_sim h0).1 <| trivial) (noIdL_cons (wP_sim h0).2 <| rfl) rfl
  · cases h
theorem Dz_spec_l29Own_ok : OkD Tryz.prog 184 Dz_spec_l29Own := by
  intro xs r z ob h ho
  unfold Dz_spec_l29Own at h
  split at h
  · simp only [Option.some.injEq, Prod.mk.injEq] at h
    obtain ⟨rfl, rfl, rfl⟩ := h
    obtain ⟨h0, hb0, _⟩ := ho
    exact Den.sim (spec_l29Own_den _ hb0) (simOL_cons (wP_sim h0).1 <| trivial) (noIdL_cons (wP_sim h0).2 <| rfl) rfl
  · cases h
end Go.Ab

namespace Go.Ab
open Go Go.Proofs
theorem spec_l29Own_id (a : Store) : spec_l29Own a = a := by
  cases a; simp [spec_l29Own]
end Go.Ab

namespace Go.Ab
open Go Go.Proofs
theorem spec_l29Put_DD : DOk Tryz.prog (DD [(184, dP D_spec_l29Own)]) := DD_cons D_spec_l29Own_ok.e <| DD_nil _
def spec_l29Put_b1 (a0 : Store) (a1 : Entry) (s1 : Int) : Except (Sum (Store) (Int)) (Int) :=
  (bif (decide (0 < s1) && decide (a1.Day < ((((spec_l29Own a0).Entries).getD ((IntKind.wrap .i64 (s1 - 1)).toNat) default).Day))) then .ok (IntKind.wrap .i64 (s1 - 1)) else .error (.inr s1))
def spec_l29Put (a0 : Store) (a1 : Entry) : Store :=
  (match loopW (spec_l29Put_b1 a0 a1) ((((((spec_l29Own a0).Entries).length : Int)).toNat) + 1) (((spec_l29Own a0).Entries).length : Int) with | .error (.inl e) => e | .error (.inr s1) => { Spares := (spec_l29Own a0).Spares, Entries := ((([] : List Entry) ++ (subL ((spec_l29Own a0).Entries) 0 ((s1).toNat))) ++ [a1]) ++ (subL ((spec_l29Own a0).Entries) ((s1).toNat) (((spec_l29Own a0).Entries).length - (s1).toNat)) : Store } | .ok _ => default)
theorem spec_l29Put_den (a0 : Store) (a1 : Entry) (hb0 : bdStore a0) (hb1 : bdEntry a1) : Den Tryz.prog 146 [.ep (eStore a0), .agg (eEntry a1)] (.agg (eStoreO (spec_l29Put a0 a1))) := by
  generalize hR : spec_l29Put a0 a1 = r
  unfold spec_l29Put at hR
  refine den_intro G_ok Tryz.func146 (by kernel_rfl) rfl Tryz.ntmps146 (by rw [Tryz.results146]) (by simp) rfl ?_
  intro c hL hc hk
  obtain ⟨hL0, hL1, _⟩ := hL
  have hw0 : bwStore a0 := Store_lens a0 hL0
  have hw1 : bwEntry a1 := Entry_lens a1 hL1
  clear hL0 hL1
  simp only [pars, Nat.zero_add]
  refine AWP.seq ?_
  refine AWP.regS G_ok spec_l29Put_DD hc (by kernel_rfl) (fun K hK => ?_); simp only [ea, gv, sv, D_spec_l29Own, reduceCtorEq, reduceIte, Nat.reduceBEq, Nat.reduceAdd, Nat.reduceEqDiff, Nat.reduceLT, Nat.reduceLeDiff, Nat.reduceMul, Nat.reduceSub, BEq.rfl, beq_self_eq_true, Int.reduceToNat]
  (refine hK _ ?_)
  clear hK K
  refine AWP.seq ?_
  refine AWP.regS G_ok spec_l29Put_DD hc (by kernel_rfl) (fun K hK => ?_); simp only [ea, gv, sv, D_spec_l29Own, reduceCtorEq, reduceIte, Nat.reduceBEq, Nat.reduceAdd, Nat.reduceEqDiff, Nat.reduceLT, Nat.reduceLeDiff, Nat.reduceMul, Nat.reduceSub, BEq.rfl, beq_self_eq_true, Int.reduceToNat]
  (refine ⟨by (trivial), hK _ ?_⟩)
  clear hK K
  refine AWP.seq ?_
  refine AWP.regS G_ok spec_l29Put_DD hc (by kernel_rfl) (fun K hK => ?_); simp only [ea, gv, sv, D_spec_l29Own, reduceCtorEq, reduceIte, Nat.reduceBEq, Nat.reduceAdd, Nat.reduceEqDiff, Nat.reduceLT, Nat.reduceLeDiff, Nat.reduceMul, Nat.reduceSub, BEq.rfl, beq_self_eq_true, Int.reduceToNat]
  (refine hK _ ?_)
  clear hK K
  refine AWP.seq ?_
  refine AWP.block ?_
  generalize hz1 : loopW (spec_l29Put_b1 a0 a1) ((((((spec_l29Own a0).Entries).length : Int)).toNat) + 1) (((spec_l29Own a0).Entries).length : Int) = z1 at hR
  refine AWP.whileW (spec_l29Put_b1 a0 a1) (fun s1 => ⟨[(3, .ptr 0 0), (4, .ptr 1 0), (5, .ptr 2 0), (6, .int .i64 s1)], [.box [.int .i64 a1.Day, .str a1.Item, .int .i64 a1.Amount], .box [.nils, .nils], .box [.ref 3 3 0 (((spec_l29Own a0).Spares).length), .ref 4 3 0 (((spec_l29Own a0).Entries).length)], .arr 30 3 ((spec_l29Own a0).Spares).length (fun j => eSpare (((spec_l29Own a0).Spares).getD j default)), .arr 33 3 ((spec_l29Own a0).Entries).length (fun j => eEntry (((spec_l29Own a0).Entries).getD j default))]⟩) (fun s1 => 0 ≤ s1 ∧ s1 ≤ (spec_l29Own a0).Entries.length) (fun s1 => (s1).toNat) ((((((spec_l29Own a0).Entries).length : Int)).toNat) + 1) (((spec_l29Own a0).Entries).length : Int) [0, 1, 4, 2, 3] hz1 (by omega) (by ((and_intros <;> simp only [ob, ln, spec_l29Own_id] at * <;> omega))) (by (simp only [si, ea, gv, sv, hk, reduceCtorEq, reduceIte, Nat.reduceBEq, Nat.reduceAdd, Nat.reduceEqDiff, Nat.reduceLT, Nat.reduceLeDiff, Nat.reduceMul, Nat.reduceSub, BEq.rfl, beq_self_eq_true, Int.reduceToNat]; trivial)) ?_
  clear hz1
  intro s1 k1 hW1 hm1 hz1
  simp only [spec_l29Put_b1] at hz1
  refine AWP.seq ?_
  refine AWP.seq ?_
  refine AWP.regD mixed G_ok spec_l29Put_DD hc 14 (by kernel_rfl) (by kernel_rfl) (fun K hK => ?_); simp only [ea, gv, sv, D_spec_l29Own, reduceCtorEq, reduceIte, Nat.reduceBEq, Nat.reduceAdd, Nat.reduceEqDiff, Nat.reduceLT, Nat.reduceLeDiff, Nat.reduceMul, Nat.reduceSub, BEq.rfl, beq_self_eq_true, Int.reduceToNat]
  (refine ⟨by ((simp only [ob, ln, bdv, spec_l29Own_id, sv] at *; omega)), hK _ ?_⟩)
  clear hK K
  refine AWP.cond rfl (fun hb => ?_) (fun hb => ?_)
  · (simp only [hb, cond_true] at hz1)
    refine AWP.skip ?_
    refine AWP.block ?_
    refine AWP.regS G_ok spec_l29Put_DD hc (by kernel_rfl) (fun K hK => ?_); simp only [ea, gv, sv, D_spec_l29Own, reduceCtorEq, reduceIte, Nat.reduceBEq, Nat.reduceAdd, Nat.reduceEqDiff, Nat.reduceLT, Nat.reduceLeDiff, Nat.reduceMul, Nat.reduceSub, BEq.rfl, beq_self_eq_true, Int.reduceToNat]
    (refine hK _ ?_)
    clear hK K
    exact ⟨_, [0, 1, 2, 3, 4], by ((simp only [ob, ln, spec_l29Own_id] at *; omega)), by ((and_intros <;> (simp only [ob, ln, bdv, spec_l29Own_id, sv] at *; omega))), hz1, by (simp only [si, ea, gv, sv, hk, reduceCtorEq, reduceIte, Nat.reduceBEq, Nat.reduceAdd, Nat.reduceEqDiff, Nat.reduceLT, Nat.reduceLeDiff, Nat.reduceMul, Nat.reduceSub, BEq.rfl, beq_self_eq_true, Int.reduceToNat]; trivial)⟩
  · (simp only [hb, cond_false] at hz1)
    refine AWP.exit ?_
    refine exitTo_here ?_
    subst hz1; dsimp only at hR
    refine AWP.seq ?_
    refine AWP.regS G_ok spec_l29Put_DD hc (by kernel_rfl) (fun K hK => ?_); simp only [ea, gv, sv, D_spec_l29Own, reduceCtorEq, reduceIte, Nat.reduceBEq, Nat.reduceAdd, Nat.reduceEqDiff, Nat.reduceLT, Nat.reduceLeDiff, Nat.reduceMul, Nat.reduceSub, BEq.rfl, beq_self_eq_true, Int.reduceToNat]
    (refine ⟨by ((simp only [ob, ln, bdv, spec_l29Own_id, sv] at *; omega)), hK _ ?_⟩)
    clear hK K
    refine AWP.seq ?_
    refine AWP.regS G_ok spec_l29Put_DD hc (by kernel_rfl) (fun K hK => ?_); simp only [ea, gv, sv, D_spec_l29Own, reduceCtorEq, reduceIte, Nat.reduceBEq, Nat.reduceAdd, Nat.reduceEqDiff, Nat.reduceLT, Nat.reduceLeDiff, Nat.reduceMul, Nat.reduceSub, BEq.rfl, beq_self_eq_true, Int.reduceToNat]
    (refine ⟨by (((try clear hK K); (repeat' (apply And.intro)) <;> first | omega | (simp only [ob, ln, bdv, spec_l29Own_id, sv] at *; omega))), hK _ ?_⟩)
    clear hK K
    refine AWP.seq ?_
    refine AWP.regS G_ok spec_l29Put_DD hc (by kernel_rfl) (fun K hK => ?_); simp only [ea, gv, sv, D_spec_l29Own, reduceCtorEq, reduceIte, Nat.reduceBEq, Nat.reduceAdd, Nat.reduceEqDiff, Nat.reduceLT, Nat.reduceLeDiff, Nat.reduceMul, Nat.reduceSub, BEq.rfl, beq_self_eq_true, Int.reduceToNat]
    (refine ⟨by (((try clear hK K); (repeat' (apply And.intro)) <;> first | omega | (simp only [ob, ln, bdv, spec_l29Own_id, sv] at *; omega))), hK _ ?_⟩)
    clear hK K
    refine AWP.seq ?_
    refine AWP.regS G_ok spec_l29Put_DD hc (by kernel_rfl) (fun K hK => ?_); simp only [ea, gv, sv, D_spec_l29Own, reduceCtorEq, reduceIte, Nat.reduceBEq, Nat.reduceAdd, Nat.reduceEqDiff, Nat.reduceLT, Nat.reduceLeDiff, Nat.reduceMul, Nat.reduceSub, BEq.rfl, beq_self_eq_true, Int.reduceToNat]
    (refine hK _ ?_)
    clear hK K
    refine AWP.ret ?_
    subst hR
    (simp only [en, si, ea, gv, sv, hk, reduceCtorEq, reduceIte, Nat.reduceBEq, Nat.reduceAdd, Nat.reduceEqDiff, Nat.reduceLT, Nat.reduceLeDiff, Nat.reduceMul, Nat.reduceSub, BEq.rfl, beq_self_eq_true, Int.reduceToNat]; (and_intros <;> first | omega | (simp only [ln]; done) | (left; and_intros <;> (intro j hj; simp only [pw, Bool.cond_eq_ite, Bool.and_eq_true, decide_eq_true_eq]; (repeat' split) <;> simp [putL, borrowL, borrow, NoBorL, NoBor])) | (intro j hj; simp only [pw, Bool.cond_eq_ite]; (repeat' split) <;> first | rfl | (simp [pureL, pureV, borrowL, borrow, NoBorL, NoBor]; done)) | (intro j hj; simp only [pw, Bool.cond_eq_ite, Bool.and_eq_true, decide_eq_true_eq]; (try rw [subL_getD _ _ _ _ (by assumption)]); (try rw [clearL_getD _ _ _ _ (by omega)]); (repeat' split) <;> first | omega | exact simOL_refl _ | (simp_all; omega) | (simp only [List.length_append, subL_length, List.length_cons, List.length_nil, Nat.zero_add, Nat.add_zero] at *; first | omega | (rw [subL_getD _ _ _ _ (by omega)]; (try simp only [Nat.zero_add]); exact simOL_refl _)))))
def D_spec_l29Put : DF
  | [x0, x1] => some (.agg (eStoreO (spec_l29Put (rdP dStore x0) (rdG dEntry x1))), false, [wP eStore dStore x0, wG eEntry dEntry x1, bdStore (rdP dStore x0), bdEntry (rdG dEntry x1)])
  | _ => none
def Dz_spec_l29Put : DF
  | [x0, x1] => some (.agg (eStoreO (spec_l29Put (rdP dStore x0) (rdG dEntry x1))), true, [wP eStore dStore x0, wG eEntry dEntry x1, bdStore (rdP dStore x0), bdEntry (rdG dEntry x1)])
  | _ => none
theorem D_spec_l29Put_ok : OkD Tryz.prog 146 D_spec_l29Put := by
  intro xs r z ob h ho
  unfold D_spec_l29Put at h
  split at h
  · simp only [Option.some.injEq, Prod.mk.injEq] at h
    obtain ⟨rfl, rfl, rfl⟩ := h
    obtain ⟨h0, h1, hb0, hb1, _⟩ := ho
    exact Den.sim (spec_l29Put_den _ _ hb0 hb1) (simOL_cons (wP_sim h0).1 <| simOL_cons (wG_sim h1).1 <| trivial) (noIdL_cons (wP_sim h0).2 <| noIdL_cons (wG_sim h1).2 <| rfl) rfl
  · cases h
theorem Dz_spec_l29Put_ok : OkD Tryz.prog 146 Dz_spec_l29Put := by
  intro xs r z ob h ho
  unfold Dz_spec_l29Put at h
  split at h
  · simp only [Option.some.injEq, Prod.mk.injEq] at h
    obtain ⟨rfl, rfl, rfl⟩ := h
    obtain ⟨h0, h1, hb0, hb1, _⟩ := ho
    exact Den.sim (spec_l29Put_den _ _ hb0 hb1) (simOL_cons (wP_sim h0).1 <| simOL_cons (wG_sim h1).1 <| trivial) (noIdL_cons (wP_sim h0).2 <| noIdL_cons (wG_sim h1).2 <| rfl) rfl
  · cases h
end Go.Ab

namespace Go.Ab
open Go Go.Proofs
theorem wrap_nat_pred {j : Nat} (h0 : 0 < j) (hn : j < 9223372036854775808) : IntKind.wrap .i64 ((j : Int) - 1) = ((j - 1 : Nat) : Int) := by
  rw [IntKind.wrap_i64]; omega
theorem loopW_down {ρ : Type} {b : Int → Except (Sum ρ Int) Int} (p : Nat → Bool) (m : Nat) (hb : ∀ j : Nat, j ≤ m → b (j : Int) = bif (decide (0 < j) && p (j - 1)) then .ok ((j - 1 : Nat) : Int) else .error (.inr (j : Int))) :
    ∀ (f n : Nat), n ≤ m → n < f → ∃ j, j ≤ n ∧ (∀ q, j ≤ q → q < n → p q = true) ∧ (j = 0 ∨ p (j - 1) = false) ∧ loopW b f (n : Int) = .error (.inr (j : Int))
  | 0, n, _, h => by omega
  | f + 1, n, hm, h => by
    simp only [loopW, hb n hm]
    cases hc : (decide (0 < n) && p (n - 1)) with
    | false =>
      refine ⟨n, Nat.le_refl _, fun q a b => by omega, ?_, rfl⟩
      by_cases h0 : 0 < n
      · right; simpa [h0] using hc
      · left; omega
    | true =>
      simp only [Bool.and_eq_true, decide_eq_true_eq] at hc
      obtain ⟨j, g1, g2, g3, g4⟩ := loopW_down p m hb f (n - 1) (by omega) (by omega)
      refine ⟨j, by omega, fun q a b => ?_, g3, by simpa using g4⟩
      by_cases hq : q = n - 1
      · rw [hq]; exact hc.2
      · exact g2 q a (by omega)
end Go.Ab

namespace Go.Ab
open Go Go.Proofs
theorem spec_l29Put_spec (a : Store) (e : Entry) (hl : a.Entries.length < 9223372036854775808) : ∃ j, j ≤ a.Entries.length ∧ (∀ q, j ≤ q → q < a.Entries.length → e.Day < (a.Entries.getD q default).Day) ∧ (j = 0 ∨ (a.Entries.getD (j - 1) default).Day ≤ e.Day) ∧
    spec_l29Put a e = ⟨a.Spares, a.Entries.take j ++ e :: a.Entries.drop j⟩ := by
  unfold spec_l29Put
  simp only [spec_l29Own_id, Int.toNat_natCast]
  obtain ⟨j, h1, h2, h3, h4⟩ := loopW_down (ρ := Store) (b := spec_l29Put_b1 a e) (fun q => decide (e.Day < (a.Entries.getD q default).Day)) a.Entries.length (fun j hj => by
    simp only [spec_l29Put_b1, spec_l29Own_id]
    by_cases h0 : 0 < j
    · rw [wrap_nat_pred h0 (by omega)]
      simp [h0]
    · have : j = 0 := by omega
      subst this
      simp) (a.Entries.length + 1) a.Entries.length (Nat.le_refl _) (by omega)
  refine ⟨j, h1, fun q a b => by simpa using h2 q a b, ?_, ?_⟩
  · rcases h3 with h3 | h3
    · exact .inl h3
    · right; have := of_decide_eq_false h3; omega
  · rw [h4]
    simp only [Int.toNat_natCast]
    rw [subL_eq _ _ _ (by omega), subL_eq _ _ _ (by omega)]
    simp [List.take_of_length_le]
theorem spec_l29Put_sp (a : Store) (e : Entry) (hl : a.Entries.length < 9223372036854775808) : (spec_l29Put a e).Spares = a.Spares ∧ (spec_l29Put a e).Entries.length = a.Entries.length + 1 := by
  obtain ⟨j, h1, _, _, h4⟩ := spec_l29Put_spec a e hl
  rw [h4]
  refine ⟨rfl, ?_⟩
  simp only [List.length_append, List.length_take, List.length_cons, List.length_drop]
  omega
end Go.Ab

namespace Go.Ab
open Go Go.Proofs
theorem spec_l29Add_DD : DOk Tryz.prog (DD [(144, dP D_spec_l29Find), (145, dP D_spec_l29Flow), (146, dP D_spec_l29Put)]) := DD_cons D_spec_l29Find_ok.e <| DD_cons D_spec_l29Flow_ok.e <| DD_cons D_spec_l29Put_ok.e <| DD_nil _
def spec_l29Add (a0 : Store) (a1 : Entry) : (Store × Int) :=
  (bif decide ((spec_l29Find a0 a1.Item) < 0) then ({ Spares := [], Entries := [] : Store }, 3) else (bif ((a0.Entries.length : Int) == 48) then ({ Spares := [], Entries := [] : Store }, 5) else (bif (!(spec_l29Flow ({ Spares := (spec_l29Put a0 a1).Spares, Entries := (spec_l29Put a0 a1).Entries : Store }) (spec_l29Find a0 a1.Item))) then ({ Spares := [], Entries := [] : Store }, 6) else ({ Spares := (spec_l29Put a0 a1).Spares, Entries := (spec_l29Put a0 a1).Entries : Store }, 0))))
theorem spec_l29Add_den (a0 : Store) (a1 : Entry) (hb0 : bdStore a0) (hb1 : bdEntry a1) : Den Tryz.prog 101 [.ep (eStore a0), .agg (eEntry a1)] (.tup [.agg (eStoreO ((spec_l29Add a0 a1).1)), .int .i64 ((spec_l29Add a0 a1).2)]) := by
  generalize hR : spec_l29Add a0 a1 = r
  unfold spec_l29Add at hR
  refine den_intro G_ok Tryz.func101 (by kernel_rfl) rfl Tryz.ntmps101 (by rw [Tryz.results101]) (by simp) rfl ?_
  intro c hL hc hk
  obtain ⟨hL0, hL1, _⟩ := hL
  have hw0 : bwStore a0 := Store_lens a0 hL0
  have hw1 : bwEntry a1 := Entry_lens a1 hL1
  clear hL0 hL1
  simp only [pars, Nat.zero_add]
  have hsp := spec_l29Put_sp a0 a1 (And.left (And.right hw0))
  have hfl := spec_l29Find_lt a0 a1.Item
  refine AWP.seq ?_
  refine AWP.regS G_ok spec_l29Add_DD hc (by kernel_rfl) (fun K hK => ?_); simp only [ea, gv, sv, D_spec_l29Find, D_spec_l29Flow, D_spec_l29Put, reduceCtorEq, reduceIte, Nat.reduceBEq, Nat.reduceAdd, Nat.reduceEqDiff, Nat.reduceLT, Nat.reduceLeDiff, Nat.reduceMul, Nat.reduceSub, BEq.rfl, beq_self_eq_true, Int.reduceToNat]
  (refine hK _ ?_)
  clear hK K
  refine AWP.seq ?_
  refine AWP.regS G_ok spec_l29Add_DD hc (by kernel_rfl) (fun K hK => ?_); simp only [ea, gv, sv, D_spec_l29Find, D_spec_l29Flow, D_spec_l29Put, reduceCtorEq, reduceIte, Nat.reduceBEq, Nat.reduceAdd, Nat.reduceEqDiff, Nat.reduceLT, Nat.reduceLeDiff, Nat.reduceMul, Nat.reduceSub, BEq.rfl, beq_self_eq_true, Int.reduceToNat]
  (refine hK _ ?_)
  clear hK K
  refine AWP.seq ?_
  refine AWP.seq ?_
  refine AWP.regS G_ok spec_l29Add_DD hc (by kernel_rfl) (fun K hK => ?_); simp only [ea, gv, sv, D_spec_l29Find, D_spec_l29Flow, D_spec_l29Put, reduceCtorEq, reduceIte, Nat.reduceBEq, Nat.reduceAdd, Nat.reduceEqDiff, Nat.reduceLT, Nat.reduceLeDiff, Nat.reduceMul, Nat.reduceSub, BEq.rfl, beq_self_eq_true, Int.reduceToNat]
  (refine hK _ ?_)
  clear hK K
  refine AWP.cond rfl (fun hb => ?_) (fun hb => ?_)
  · (simp only [hb, cond_true] at hR)
    refine AWP.seq ?_
    refine AWP.regS G_ok spec_l29Add_DD hc (by kernel_rfl) (fun K hK => ?_); simp only [ea, gv, sv, D_spec_l29Find, D_spec_l29Flow, D_spec_l29Put, reduceCtorEq, reduceIte, Nat.reduceBEq, Nat.reduceAdd, Nat.reduceEqDiff, Nat.reduceLT, Nat.reduceLeDiff, Nat.reduceMul, Nat.reduceSub, BEq.rfl, beq_self_eq_true, Int.reduceToNat]
    (refine hK _ ?_)
    clear hK K
    refine AWP.ret ?_
    subst hR
    (simp only [en, si, ea, gv, sv, hk, reduceCtorEq, reduceIte, Nat.reduceBEq, Nat.reduceAdd, Nat.reduceEqDiff, Nat.reduceLT, Nat.reduceLeDiff, Nat.reduceMul, Nat.reduceSub, BEq.rfl, beq_self_eq_true, Int.reduceToNat]; done)
  · (simp only [hb, cond_false] at hR)
    refine AWP.skip ?_
    refine AWP.seq ?_
    refine AWP.seq ?_
    refine AWP.regS G_ok spec_l29Add_DD hc (by kernel_rfl) (fun K hK => ?_); simp only [ea, gv, sv, D_spec_l29Find, D_spec_l29Flow, D_spec_l29Put, reduceCtorEq, reduceIte, Nat.reduceBEq, Nat.reduceAdd, Nat.reduceEqDiff, Nat.reduceLT, Nat.reduceLeDiff, Nat.reduceMul, Nat.reduceSub, BEq.rfl, beq_self_eq_true, Int.reduceToNat]
    (refine hK _ ?_)
    clear hK K
    refine AWP.cond rfl (fun hb => ?_) (fun hb => ?_)
    · (simp only [hb, cond_true] at hR)
      refine AWP.seq ?_
      refine AWP.regS G_ok spec_l29Add_DD hc (by kernel_rfl) (fun K hK => ?_); simp only [ea, gv, sv, D_spec_l29Find, D_spec_l29Flow, D_spec_l29Put, reduceCtorEq, reduceIte, Nat.reduceBEq, Nat.reduceAdd, Nat.reduceEqDiff, Nat.reduceLT, Nat.reduceLeDiff, Nat.reduceMul, Nat.reduceSub, BEq.rfl, beq_self_eq_true, Int.reduceToNat]
      (refine hK _ ?_)
      clear hK K
      refine AWP.ret ?_
      subst hR
      (simp only [en, si, ea, gv, sv, hk, reduceCtorEq, reduceIte, Nat.reduceBEq, Nat.reduceAdd, Nat.reduceEqDiff, Nat.reduceLT, Nat.reduceLeDiff, Nat.reduceMul, Nat.reduceSub, BEq.rfl, beq_self_eq_true, Int.reduceToNat]; done)
    · (simp only [hb, cond_false] at hR)
      refine AWP.skip ?_
      refine AWP.seq ?_
      refine AWP.regS G_ok spec_l29Add_DD hc (by kernel_rfl) (fun K hK => ?_); simp only [ea, gv, sv, D_spec_l29Find, D_spec_l29Flow, D_spec_l29Put, reduceCtorEq, reduceIte, Nat.reduceBEq, Nat.reduceAdd, Nat.reduceEqDiff, Nat.reduceLT, Nat.reduceLeDiff, Nat.reduceMul, Nat.reduceSub, BEq.rfl, beq_self_eq_true, Int.reduceToNat]
      (refine ⟨by (trivial), hK _ ?_⟩)
      clear hK K
      refine AWP.seq ?_
      refine AWP.seq ?_
      refine AWP.regS G_ok spec_l29Add_DD hc (by kernel_rfl) (fun K hK => ?_); simp only [ea, gv, sv, D_spec_l29Find, D_spec_l29Flow, D_spec_l29Put, reduceCtorEq, reduceIte, Nat.reduceBEq, Nat.reduceAdd, Nat.reduceEqDiff, Nat.reduceLT, Nat.reduceLeDiff, Nat.reduceMul, Nat.reduceSub, BEq.rfl, beq_self_eq_true, Int.reduceToNat]
      (refine ⟨by (((try clear hK K); (repeat' (apply And.intro)) <;> first | omega | (simp only [ob, ln, bdv, sv] at *; first | omega | (simp_all; done)))), hK _ ?_⟩)
      clear hK K
      refine AWP.cond rfl (fun hb => ?_) (fun hb => ?_)
      · (simp only [hb, cond_true] at hR)
        refine AWP.seq ?_
        refine AWP.regS G_ok spec_l29Add_DD hc (by kernel_rfl) (fun K hK => ?_); simp only [ea, gv, sv, D_spec_l29Find, D_spec_l29Flow, D_spec_l29Put, reduceCtorEq, reduceIte, Nat.reduceBEq, Nat.reduceAdd, Nat.reduceEqDiff, Nat.reduceLT, Nat.reduceLeDiff, Nat.reduceMul, Nat.reduceSub, BEq.rfl, beq_self_eq_true, Int.reduceToNat]
        (refine hK _ ?_)
        clear hK K
        refine AWP.ret ?_
        subst hR
        (simp only [en, si, ea, gv, sv, hk, reduceCtorEq, reduceIte, Nat.reduceBEq, Nat.reduceAdd, Nat.reduceEqDiff, Nat.reduceLT, Nat.reduceLeDiff, Nat.reduceMul, Nat.reduceSub, BEq.rfl, beq_self_eq_true, Int.reduceToNat]; done)
      · (simp only [hb, cond_false] at hR)
        refine AWP.skip ?_
        refine AWP.seq ?_
        refine AWP.regS G_ok spec_l29Add_DD hc (by kernel_rfl) (fun K hK => ?_); simp only [ea, gv, sv, D_spec_l29Find, D_spec_l29Flow, D_spec_l29Put, reduceCtorEq, reduceIte, Nat.reduceBEq, Nat.reduceAdd, Nat.reduceEqDiff, Nat.reduceLT, Nat.reduceLeDiff, Nat.reduceMul, Nat.reduceSub, BEq.rfl, beq_self_eq_true, Int.reduceToNat]
        (refine hK _ ?_)
        clear hK K
        refine AWP.ret ?_
        subst hR
        (simp only [en, si, ea, gv, sv, hk, reduceCtorEq, reduceIte, Nat.reduceBEq, Nat.reduceAdd, Nat.reduceEqDiff, Nat.reduceLT, Nat.reduceLeDiff, Nat.reduceMul, Nat.reduceSub, BEq.rfl, beq_self_eq_true, Int.reduceToNat]; (and_intros <;> omega))
def D_spec_l29Add : DF
  | [x0, x1] => some (.tup [.agg (eStoreO ((spec_l29Add (rdP dStore x0) (rdG dEntry x1)).1)), .int .i64 ((spec_l29Add (rdP dStore x0) (rdG dEntry x1)).2)], false, [wP eStore dStore x0, wG eEntry dEntry x1, bdStore (rdP dStore x0), bdEntry (rdG dEntry x1)])
  | _ => none
def Dz_spec_l29Add : DF
  | [x0, x1] => some (.tup [.agg (eStoreO ((spec_l29Add (rdP dStore x0) (rdG dEntry x1)).1)), .int .i64 ((spec_l29Add (rdP dStore x0) (rdG dEntry x1)).2)], true, [wP eStore dStore x0, wG eEntry dEntry x1, bdStore (rdP dStore x0), bdEntry (rdG dEntry x1)])
  | _ => none
theorem D_spec_l29Add_ok : OkD Tryz.prog 101 D_spec_l29Add := by
  intro xs r z ob h ho
  unfold D_spec_l29Add at h
  split at h
  · simp only [Option.some.injEq, Prod.mk.injEq] at h
    obtain ⟨rfl, rfl, rfl⟩ := h
    obtain ⟨h0, h1, hb0, hb1, _⟩ := ho
    exact Den.sim (spec_l29Add_den _ _ hb0 hb1) (simOL_cons (wP_sim h0).1 <| simOL_cons (wG_sim h1).1 <| trivial) (noIdL_cons (wP_sim h0).2 <| noIdL_cons (wG_sim h1).2 <| rfl) rfl
  · cases h
theorem Dz_spec_l29Add_ok : OkD Tryz.prog 101 Dz_spec_l29Add := by
  intro xs r z ob h ho
  unfold Dz_spec_l29Add at h
  split at h
  · simp only [Option.some.injEq, Prod.mk.injEq] at h
    obtain ⟨rfl, rfl, rfl⟩ := h
    obtain ⟨h0, h1, hb0, hb1, _⟩ := ho
    exact Den.sim (spec_l29Add_den _ _ hb0 hb1) (simOL_cons (wP_sim h0).1 <| simOL_cons (wG_sim h1).1 <| trivial) (noIdL_cons (wP_sim h0).2 <| noIdL_cons (wG_sim h1).2 <| rfl) rfl
  · cases h
end Go.Ab

namespace Go.Ab
open Go Go.Proofs
end Go.Ab

namespace Go.Ab
open Go Go.Proofs
theorem spec_l29Add_keep (a : Store) (e : Entry) (hl : a.Entries.length ≤ 48) (h : (spec_l29Add a e).2 = 0) :
    (spec_l29Add a e).1.Spares = a.Spares ∧ (spec_l29Add a e).1.Entries.length ≤ 48 ∧ (∀ v, v ∈ (spec_l29Add a e).1.Entries → v ∈ a.Entries ∨ v = e) := by
  obtain ⟨j, h1, h2, h3, h4⟩ := spec_l29Put_spec a e (by omega)
  unfold spec_l29Add at h ⊢
  cases hf : decide ((spec_l29Find a e.Item) < 0) with
  | true => rw [hf] at h; simp at h
  | false =>
    cases h48 : ((a.Entries.length : Int) == 48) with
    | true => rw [hf, h48] at h; simp at h
    | false =>
      cases hv : spec_l29Flow ({ Spares := (spec_l29Put a e).Spares, Entries := (spec_l29Put a e).Entries : Store }) (spec_l29Find a e.Item) with
      | false => rw [hf, h48, hv] at h; simp at h
      | true =>
        simp only [Bool.not_true, cond_false]
        rw [h4]
        refine ⟨rfl, ?_, ?_⟩
        · have : a.Entries.length ≠ 48 := by intro h; simp [h] at h48
          simp only [List.length_append, List.length_take, List.length_cons, List.length_drop]
          omega
        · intro v hv
          simp only [List.mem_append, List.mem_cons] at hv
          rcases hv with h | h | h
          · exact .inl (List.mem_of_mem_take h)
          · exact .inr h
          · exact .inl (List.mem_of_mem_drop h)
end Go.Ab

namespace Go.Ab
open Go Go.Proofs
theorem spec_AddEntry_DD : DOk Tryz.prog (DD [(100, dP D_spec_l29Ok), (101, dP D_spec_l29Add), (83, dP D_spec_l29Entry)]) := DD_cons D_spec_l29Ok_ok.e <| DD_cons D_spec_l29Add_ok.e <| DD_cons D_spec_l29Entry_ok.e <| DD_nil _
def spec_AddEntry (a0 : Store) (a1 : Entry) : (Store × Int) :=
  (bif ((!(spec_l29Ok a0)) || (!(spec_l29Entry a1))) then ({ Spares := [], Entries := [] : Store }, 1) else ({ Spares := ((spec_l29Add a0 a1).1).Spares, Entries := ((spec_l29Add a0 a1).1).Entries : Store }, (spec_l29Add a0 a1).2))
theorem spec_AddEntry_den (a0 : Store) (a1 : Entry) (hb0 : bdStore a0) (hb1 : bdEntry a1) : Den Tryz.prog 60 [.agg (eStore a0), .agg (eEntry a1)] (.tup [.agg (eStoreO ((spec_AddEntry a0 a1).1)), .int .i64 ((spec_AddEntry a0 a1).2)]) := by
  generalize hR : spec_AddEntry a0 a1 = r
  unfold spec_AddEntry at hR
  refine den_intro G_ok Tryz.func60 (by kernel_rfl) rfl Tryz.ntmps60 (by rw [Tryz.results60]) (by simp) rfl ?_
  intro c hL hc hk
  obtain ⟨hL0, hL1, _⟩ := hL
  have hw0 : bwStore a0 := Store_lens a0 hL0
  have hw1 : bwEntry a1 := Entry_lens a1 hL1
  clear hL0 hL1
  simp only [pars, Nat.zero_add]
  refine AWP.seq ?_
  refine AWP.regS G_ok spec_AddEntry_DD hc (by kernel_rfl) (fun K hK => ?_); simp only [ea, gv, sv, D_spec_l29Ok, D_spec_l29Add, D_spec_l29Entry, reduceCtorEq, reduceIte, Nat.reduceBEq, Nat.reduceAdd, Nat.reduceEqDiff, Nat.reduceLT, Nat.reduceLeDiff, Nat.reduceMul, Nat.reduceSub, BEq.rfl, beq_self_eq_true, Int.reduceToNat]
  (refine hK _ ?_)
  clear hK K
  refine AWP.seq ?_
  refine AWP.seq ?_
  refine AWP.regS G_ok spec_AddEntry_DD hc (by kernel_rfl) (fun K hK => ?_); simp only [ea, gv, sv, D_spec_l29Ok, D_spec_l29Add, D_spec_l29Entry, reduceCtorEq, reduceIte, Nat.reduceBEq, Nat.reduceAdd, Nat.reduceEqDiff, Nat.reduceLT, Nat.reduceLeDiff, Nat.reduceMul, Nat.reduceSub, BEq.rfl, beq_self_eq_true, Int.reduceToNat]
  (refine hK _ ?_)
  clear hK K
  refine AWP.cond rfl (fun hb => ?_) (fun hb => ?_)
  · (simp only [hb, cond_true] at hR)
    refine AWP.seq ?_
    refine AWP.regS G_ok spec_AddEntry_DD hc (by kernel_rfl) (fun K hK => ?_); simp only [ea, gv, sv, D_spec_l29Ok, D_spec_l29Add, D_spec_l29Entry, reduceCtorEq, reduceIte, Nat.reduceBEq, Nat.reduceAdd, Nat.reduceEqDiff, Nat.reduceLT, Nat.reduceLeDiff, Nat.reduceMul, Nat.reduceSub, BEq.rfl, beq_self_eq_true, Int.reduceToNat]
    (refine hK _ ?_)
    clear hK K
    refine AWP.ret ?_
    subst hR
    (simp only [en, si, ea, gv, sv, hk, reduceCtorEq, reduceIte, Nat.reduceBEq, Nat.reduceAdd, Nat.reduceEqDiff, Nat.reduceLT, Nat.reduceLeDiff, Nat.reduceMul, Nat.reduceSub, BEq.rfl, beq_self_eq_true, Int.reduceToNat]; done)
  · (simp only [hb, cond_false] at hR)
    refine AWP.skip ?_
    refine AWP.seq ?_
    refine AWP.regS G_ok spec_AddEntry_DD hc (by kernel_rfl) (fun K hK => ?_); simp only [ea, gv, sv, D_spec_l29Ok, D_spec_l29Add, D_spec_l29Entry, reduceCtorEq, reduceIte, Nat.reduceBEq, Nat.reduceAdd, Nat.reduceEqDiff, Nat.reduceLT, Nat.reduceLeDiff, Nat.reduceMul, Nat.reduceSub, BEq.rfl, beq_self_eq_true, Int.reduceToNat]
    (refine ⟨by (trivial), hK _ ?_⟩)
    clear hK K
    refine AWP.ret ?_
    subst hR
    (simp only [en, si, ea, gv, sv, hk, reduceCtorEq, reduceIte, Nat.reduceBEq, Nat.reduceAdd, Nat.reduceEqDiff, Nat.reduceLT, Nat.reduceLeDiff, Nat.reduceMul, Nat.reduceSub, BEq.rfl, beq_self_eq_true, Int.reduceToNat]; (and_intros <;> omega))
def D_spec_AddEntry : DF
  | [x0, x1] => some (.tup [.agg (eStoreO ((spec_AddEntry (rdG dStore x0) (rdG dEntry x1)).1)), .int .i64 ((spec_AddEntry (rdG dStore x0) (rdG dEntry x1)).2)], false, [wG eStore dStore x0, wG eEntry dEntry x1, bdStore (rdG dStore x0), bdEntry (rdG dEntry x1)])
  | _ => none
def Dz_spec_AddEntry : DF
  | [x0, x1] => some (.tup [.agg (eStoreO ((spec_AddEntry (rdG dStore x0) (rdG dEntry x1)).1)), .int .i64 ((spec_AddEntry (rdG dStore x0) (rdG dEntry x1)).2)], true, [wG eStore dStore x0, wG eEntry dEntry x1, bdStore (rdG dStore x0), bdEntry (rdG dEntry x1)])
  | _ => none
theorem D_spec_AddEntry_ok : OkD Tryz.prog 60 D_spec_AddEntry := by
  intro xs r z ob h ho
  unfold D_spec_AddEntry at h
  split at h
  · simp only [Option.some.injEq, Prod.mk.injEq] at h
    obtain ⟨rfl, rfl, rfl⟩ := h
    obtain ⟨h0, h1, hb0, hb1, _⟩ := ho
    exact Den.sim (spec_AddEntry_den _ _ hb0 hb1) (simOL_cons (wG_sim h0).1 <| simOL_cons (wG_sim h1).1 <| trivial) (noIdL_cons (wG_sim h0).2 <| noIdL_cons (wG_sim h1).2 <| rfl) rfl
  · cases h
theorem Dz_spec_AddEntry_ok : OkD Tryz.prog 60 Dz_spec_AddEntry := by
  intro xs r z ob h ho
  unfold Dz_spec_AddEntry at h
  split at h
  · simp only [Option.some.injEq, Prod.mk.injEq] at h
    obtain ⟨rfl, rfl, rfl⟩ := h
    obtain ⟨h0, h1, hb0, hb1, _⟩ := ho
    exact Den.sim (spec_AddEntry_den _ _ hb0 hb1) (simOL_cons (wG_sim h0).1 <| simOL_cons (wG_sim h1).1 <| trivial) (noIdL_cons (wG_sim h0).2 <| noIdL_cons (wG_sim h1).2 <| rfl) rfl
  · cases h
end Go.Ab

namespace Go.Ab
open Go Go.Proofs
theorem spec_l00Src_text_DD : DOk Tryz.prog (DD [(59, dM [true, false] D_spec_l00Src_pick)]) := DD_cons D_spec_l00Src_pick_ok.e <| DD_nil _
def spec_l00Src_text (a0 : l00Src) (a1 : (List (List UInt8))) : (List UInt8) × l00Src :=
  ((a1.getD ((((spec_l00Src_pick a0 (a1.length : Int)).1)).toNat) default), (spec_l00Src_pick a0 (a1.length : Int)).2)
theorem spec_l00Src_text_den (a0 : l00Src) (a1 : (List (List UInt8))) (hp0 : SrcOk 800000 a0) (hp1 : 1 ≤ a1.length) : DenM Tryz.prog 147 [.op (el00Src a0), ownL 9 1 eS a1] (.str ((spec_l00Src_text a0 a1).1)) [(.op (el00Src ((spec_l00Src_text a0 a1).2))), .any] := by
  generalize hR : spec_l00Src_text a0 a1 = r
  unfold spec_l00Src_text at hR
  refine den_introM (gb := [true, false]) G_ok Tryz.func147 (by kernel_rfl) rfl Tryz.ntmps147 (by rw [Tryz.results147]) (by simp) ?_
  intro c hL hc hk
  obtain ⟨hL0, hL1, _⟩ := hL
  have hw0 : bwl00Src a0 := l00Src_lens a0 hL0
  have hw1 : a1.length < 9223372036854775808 := Nat.lt_succ_of_le (lens_ownL hL1).1
  have hw2 : ∀ v ∈ a1, bwS v := fun v hv => S_lens v ((lens_ownL hL1).2 v hv)
  clear hL0 hL1
  simp only [adEL, adE, adRL, adR, ownL, encL, sv, List.nil_append, List.append_nil, List.cons_append, List.length_cons, List.length_nil, pars, Nat.zero_add, Nat.reduceAdd] at hk ⊢
  have hr := pick_range (a1.length : Int) hp0 (by omega)
  refine AWP.seq ?_
  refine AWP.regS G_ok spec_l00Src_text_DD hc (by kernel_rfl) (fun K hK => ?_); simp only [ea, absV, absVL, gv, sv, D_spec_l00Src_pick, reduceCtorEq, reduceIte, Nat.reduceBEq, Nat.reduceAdd, Nat.reduceEqDiff, Nat.reduceLT, Nat.reduceLeDiff, Nat.reduceMul, Nat.reduceSub, BEq.rfl, beq_self_eq_true, Int.reduceToNat]
  (refine hK _ ?_)
  clear hK K
  refine AWP.seq ?_
  refine AWP.regS G_ok spec_l00Src_text_DD hc (by kernel_rfl) (fun K hK => ?_); simp only [ea, absV, absVL, gv, sv, D_spec_l00Src_pick, reduceCtorEq, reduceIte, Nat.reduceBEq, Nat.reduceAdd, Nat.reduceEqDiff, Nat.reduceLT, Nat.reduceLeDiff, Nat.reduceMul, Nat.reduceSub, BEq.rfl, beq_self_eq_true, Int.reduceToNat]
  (refine ⟨by (((try clear hK K); (repeat' (apply And.intro)) <;> first | trivial | omega | (refine SrcOk.mono (by repeat' assumption) (by omega)))), hK _ ?_⟩)
  clear hK K
  refine AWP.ret ?_
  subst hR
  (simp only [en, si, ea, gv, sv, hk, reduceCtorEq, reduceIte, Nat.reduceBEq, Nat.reduceAdd, Nat.reduceEqDiff, Nat.reduceLT, Nat.reduceLeDiff, Nat.reduceMul, Nat.reduceSub, BEq.rfl, beq_self_eq_true, Int.reduceToNat]; done)
def D_spec_l00Src_text : List AV → Option (AV × List AV × List Prop)
  | [x0, x1] => some (.str ((spec_l00Src_text (rdQ dl00Src x0) (rdL dS x1)).1), [(.op (el00Src ((spec_l00Src_text (rdQ dl00Src x0) (rdL dS x1)).2))), .any], [wQ el00Src dl00Src x0, wO 9 1 eS dS x1, SrcOk 800000 (rdQ dl00Src x0), 1 ≤ (rdL dS x1).length])
  | _ => none
theorem D_spec_l00Src_text_ok : OkM Tryz.prog 147 D_spec_l00Src_text := by
  intro xs r outs ob h ho
  unfold D_spec_l00Src_text at h
  split at h
  · simp only [Option.some.injEq, Prod.mk.injEq] at h
    obtain ⟨rfl, rfl, rfl⟩ := h
    obtain ⟨h0, h1, hp0, hp1, _⟩ := ho
    exact DenM.sim (spec_l00Src_text_den _ _ hp0 hp1) (simOL_cons (wQ_sim h0) <| simOL_cons (wO_sim h1) <| trivial)
  · cases h
end Go.Ab

namespace Go.Ab
open Go Go.Proofs
theorem SrcOk.text {n : Int} {s : l00Src} {l} (h : SrcOk n s) (hn : n ≤ 2000000000) : SrcOk (n + 2) (spec_l00Src_text s l).2 := by
  unfold spec_l00Src_text
  exact h.pick hn
end Go.Ab

namespace Go.Ab
open Go Go.Proofs
theorem spec_l29Name_DD : DOk Tryz.prog (DD [(147, dM [true, true] D_spec_l00Src_text)]) := DD_cons D_spec_l00Src_text_ok.e <| DD_nil _
def spec_l29Name (a0 : l00Src) : (List UInt8) × l00Src :=
  (((spec_l00Src_text a0 [[108, 97, 109, 112], [99, 104, 97, 105, 110], [98, 117, 111, 121], [112, 97, 105, 110, 116], [99, 101, 108, 108], [110, 111, 110, 101]]).1), (spec_l00Src_text a0 [[108, 97, 109, 112], [99, 104, 97, 105, 110], [98, 117, 111, 121], [112, 97, 105, 110, 116], [99, 101, 108, 108], [110, 111, 110, 101]]).2)
theorem spec_l29Name_den (a0 : l00Src) (hp0 : SrcOk 700000 a0) : DenM Tryz.prog 102 [.op (el00Src a0)] (.str ((spec_l29Name a0).1)) [(.op (el00Src ((spec_l29Name a0).2)))] := by
  generalize hR : spec_l29Name a0 = r
  unfold spec_l29Name at hR
  refine den_introM (gb := [true]) G_ok Tryz.func102 (by kernel_rfl) rfl Tryz.ntmps102 (by rw [Tryz.results102]) (by simp) ?_
  intro c hL hc hk
  obtain ⟨hL0, _⟩ := hL
  have hw0 : bwl00Src a0 := l00Src_lens a0 hL0
  clear hL0
  simp only [adEL, adE, adRL, adR, ownL, encL, sv, List.nil_append, List.append_nil, List.cons_append, List.length_cons, List.length_nil, pars, Nat.zero_add, Nat.reduceAdd] at hk ⊢
  refine AWP.seq ?_
  refine AWP.regS G_ok spec_l29Name_DD hc (by kernel_rfl) (fun K hK => ?_); simp only [ea, absV, absVL, gv, sv, D_spec_l00Src_text, reduceCtorEq, reduceIte, Nat.reduceBEq, Nat.reduceAdd, Nat.reduceEqDiff, Nat.reduceLT, Nat.reduceLeDiff, Nat.reduceMul, Nat.reduceSub, BEq.rfl, beq_self_eq_true, Int.reduceToNat]
  (refine hK _ ?_)
  clear hK K
  refine AWP.seq ?_
  refine AWP.regS G_ok spec_l29Name_DD hc (by kernel_rfl) (fun K hK => ?_); simp only [ea, absV, absVL, gv, sv, D_spec_l00Src_text, reduceCtorEq, reduceIte, Nat.reduceBEq, Nat.reduceAdd, Nat.reduceEqDiff, Nat.reduceLT, Nat.reduceLeDiff, Nat.reduceMul, Nat.reduceSub, BEq.rfl, beq_self_eq_true, Int.reduceToNat]
  (refine ⟨by (((try clear hK K); (repeat' (apply And.intro)) <;> first | trivial | (refine SrcOk.mono (by repeat' assumption) (by omega)))), hK _ ?_⟩)
  clear hK K
  refine AWP.ret ?_
  subst hR
  (simp only [en, si, ea, gv, sv, hk, reduceCtorEq, reduceIte, Nat.reduceBEq, Nat.reduceAdd, Nat.reduceEqDiff, Nat.reduceLT, Nat.reduceLeDiff, Nat.reduceMul, Nat.reduceSub, BEq.rfl, beq_self_eq_true, Int.reduceToNat]; done)
def D_spec_l29Name : List AV → Option (AV × List AV × List Prop)
  | [x0] => some (.str ((spec_l29Name (rdQ dl00Src x0)).1), [(.op (el00Src ((spec_l29Name (rdQ dl00Src x0)).2)))], [wQ el00Src dl00Src x0, SrcOk 700000 (rdQ dl00Src x0)])
  | _ => none
theorem D_spec_l29Name_ok : OkM Tryz.prog 102 D_spec_l29Name := by
  intro xs r outs ob h ho
  unfold D_spec_l29Name at h
  split at h
  · simp only [Option.some.injEq, Prod.mk.injEq] at h
    obtain ⟨rfl, rfl, rfl⟩ := h
    obtain ⟨h0, hp0, _⟩ := ho
    exact DenM.sim (spec_l29Name_den _ hp0) (simOL_cons (wQ_sim h0) <| trivial)
  · cases h
end Go.Ab

namespace Go.Ab
open Go Go.Proofs
theorem spec_l00Src_among_DD : DOk Tryz.prog (DD [(59, dM [true, false] D_spec_l00Src_pick)]) := DD_cons D_spec_l00Src_pick_ok.e <| DD_nil _
def spec_l00Src_among (a0 : l00Src) (a1 : (List Int)) : Int × l00Src :=
  ((a1.getD ((((spec_l00Src_pick a0 (a1.length : Int)).1)).toNat) default), (spec_l00Src_pick a0 (a1.length : Int)).2)
theorem spec_l00Src_among_den (a0 : l00Src) (a1 : (List Int)) (hp0 : SrcOk 800000 a0) (hp1 : 1 ≤ a1.length) : DenM Tryz.prog 103 [.op (el00Src a0), ownL 2 1 eIi64 a1] (.int .i64 ((spec_l00Src_among a0 a1).1)) [(.op (el00Src ((spec_l00Src_among a0 a1).2))), .any] := by
  generalize hR : spec_l00Src_among a0 a1 = r
  unfold spec_l00Src_among at hR
  refine den_introM (gb := [true, false]) G_ok Tryz.func103 (by kernel_rfl) rfl Tryz.ntmps103 (by rw [Tryz.results103]) (by simp) ?_
  intro c hL hc hk
  obtain ⟨hL0, hL1, _⟩ := hL
  have hw0 : bwl00Src a0 := l00Src_lens a0 hL0
  have hw1 : a1.length < 9223372036854775808 := Nat.lt_succ_of_le (lens_ownL hL1).1
  clear hL0 hL1
  simp only [adEL, adE, adRL, adR, ownL, encL, sv, List.nil_append, List.append_nil, List.cons_append, List.length_cons, List.length_nil, pars, Nat.zero_add, Nat.reduceAdd] at hk ⊢
  have hr := pick_range (a1.length : Int) hp0 (by omega)
  refine AWP.seq ?_
  refine AWP.regS G_ok spec_l00Src_among_DD hc (by kernel_rfl) (fun K hK => ?_); simp only [ea, absV, absVL, gv, sv, D_spec_l00Src_pick, reduceCtorEq, reduceIte, Nat.reduceBEq, Nat.reduceAdd, Nat.reduceEqDiff, Nat.reduceLT, Nat.reduceLeDiff, Nat.reduceMul, Nat.reduceSub, BEq.rfl, beq_self_eq_true, Int.reduceToNat]
  (refine hK _ ?_)
  clear hK K
  refine AWP.seq ?_
  refine AWP.regS G_ok spec_l00Src_among_DD hc (by kernel_rfl) (fun K hK => ?_); simp only [ea, absV, absVL, gv, sv, D_spec_l00Src_pick, reduceCtorEq, reduceIte, Nat.reduceBEq, Nat.reduceAdd, Nat.reduceEqDiff, Nat.reduceLT, Nat.reduceLeDiff, Nat.reduceMul, Nat.reduceSub, BEq.rfl, beq_self_eq_true, Int.reduceToNat]
  (refine ⟨by (((try clear hK K); (repeat' (apply And.intro)) <;> first | trivial | omega | (refine SrcOk.mono (by repeat' assumption) (by omega)))), hK _ ?_⟩)
  clear hK K
  refine AWP.ret ?_
  subst hR
  (simp only [en, si, ea, gv, sv, hk, reduceCtorEq, reduceIte, Nat.reduceBEq, Nat.reduceAdd, Nat.reduceEqDiff, Nat.reduceLT, Nat.reduceLeDiff, Nat.reduceMul, Nat.reduceSub, BEq.rfl, beq_self_eq_true, Int.reduceToNat]; done)
def D_spec_l00Src_among : List AV → Option (AV × List AV × List Prop)
  | [x0, x1] => some (.int .i64 ((spec_l00Src_among (rdQ dl00Src x0) (rdL dIi64 x1)).1), [(.op (el00Src ((spec_l00Src_among (rdQ dl00Src x0) (rdL dIi64 x1)).2))), .any], [wQ el00Src dl00Src x0, wO 2 1 eIi64 dIi64 x1, SrcOk 800000 (rdQ dl00Src x0), 1 ≤ (rdL dIi64 x1).length])
  | _ => none
theorem D_spec_l00Src_among_ok : OkM Tryz.prog 103 D_spec_l00Src_among := by
  intro xs r outs ob h ho
  unfold D_spec_l00Src_among at h
  split at h
  · simp only [Option.some.injEq, Prod.mk.injEq] at h
    obtain ⟨rfl, rfl, rfl⟩ := h
    obtain ⟨h0, h1, hp0, hp1, _⟩ := ho
    exact DenM.sim (spec_l00Src_among_den _ _ hp0 hp1) (simOL_cons (wQ_sim h0) <| simOL_cons (wO_sim h1) <| trivial)
  · cases h
end Go.Ab

namespace Go.Ab
open Go Go.Proofs
theorem spec_l01DrawName_DD : DOk Tryz.prog (DD [(147, dM [true, true] D_spec_l00Src_text)]) := DD_cons D_spec_l00Src_text_ok.e <| DD_nil _
def spec_l01DrawName (a0 : l00Src) : (List UInt8) × l00Src :=
  (((spec_l00Src_text a0 ([[97], [98], [99], [114, 111, 99, 107], [112, 105, 101, 114, 55], [110, 101, 115, 115], [120, 57], [97, 98, 99, 100, 101, 102, 103, 104, 105, 106], [97, 98, 99, 100, 101, 102, 103, 104, 105, 106, 107], [65], [], [49, 97], [97, 45, 98]] : List (List UInt8))).1), (spec_l00Src_text a0 ([[97], [98], [99], [114, 111, 99, 107], [112, 105, 101, 114, 55], [110, 101, 115, 115], [120, 57], [97, 98, 99, 100, 101, 102, 103, 104, 105, 106], [97, 98, 99, 100, 101, 102, 103, 104, 105, 106, 107], [65], [], [49, 97], [97, 45, 98]] : List (List UInt8))).2)
theorem spec_l01DrawName_den (a0 : l00Src) (hp0 : SrcOk 600000 a0) : DenM Tryz.prog 104 [.op (el00Src a0)] (.str ((spec_l01DrawName a0).1)) [(.op (el00Src ((spec_l01DrawName a0).2)))] := by
  generalize hR : spec_l01DrawName a0 = r
  unfold spec_l01DrawName at hR
  refine den_introM (gb := [true]) G_ok Tryz.func104 (by kernel_rfl) rfl Tryz.ntmps104 (by rw [Tryz.results104]) (by simp) ?_
  intro c hL hc hk
  obtain ⟨hL0, _⟩ := hL
  have hw0 : bwl00Src a0 := l00Src_lens a0 hL0
  clear hL0
  simp only [adEL, adE, adRL, adR, ownL, encL, sv, List.nil_append, List.append_nil, List.cons_append, List.length_cons, List.length_nil, pars, Nat.zero_add, Nat.reduceAdd] at hk ⊢
  have hsl : subL ([[97], [98], [99], [114, 111, 99, 107], [112, 105, 101, 114, 55], [110, 101, 115, 115], [120, 57], [97, 98, 99, 100, 101, 102, 103, 104, 105, 106], [97, 98, 99, 100, 101, 102, 103, 104, 105, 106, 107], [65], [], [49, 97], [97, 45, 98]] : List (List UInt8)) 0 13 = ([[97], [98], [99], [114, 111, 99, 107], [112, 105, 101, 114, 55], [110, 101, 115, 115], [120, 57], [97, 98, 99, 100, 101, 102, 103, 104, 105, 106], [97, 98, 99, 100, 101, 102, 103, 104, 105, 106, 107], [65], [], [49, 97], [97, 45, 98]] : List (List UInt8)) := rfl
  refine AWP.seq ?_
  refine AWP.regS G_ok spec_l01DrawName_DD hc (by kernel_rfl) (fun K hK => ?_); simp only [ea, absV, absVL, gv, sv, D_spec_l00Src_text, reduceCtorEq, reduceIte, Nat.reduceBEq, Nat.reduceAdd, Nat.reduceEqDiff, Nat.reduceLT, Nat.reduceLeDiff, Nat.reduceMul, Nat.reduceSub, BEq.rfl, beq_self_eq_true, Int.reduceToNat]
  (refine hK _ ?_)
  clear hK K
  refine AWP.seq ?_
  refine AWP.regS G_ok spec_l01DrawName_DD hc (by kernel_rfl) (fun K hK => ?_); simp only [ea, absV, absVL, gv, sv, D_spec_l00Src_text, reduceCtorEq, reduceIte, Nat.reduceBEq, Nat.reduceAdd, Nat.reduceEqDiff, Nat.reduceLT, Nat.reduceLeDiff, Nat.reduceMul, Nat.reduceSub, BEq.rfl, beq_self_eq_true, Int.reduceToNat]
  (refine ⟨by (((try clear hK K); (repeat' (apply And.intro)) <;> first | trivial | (refine SrcOk.mono (by repeat' assumption) (by omega)))), hK _ ?_⟩)
  clear hK K
  refine AWP.ret ?_
  subst hR
  (simp only [en, si, ea, gv, sv, hk, reduceCtorEq, reduceIte, Nat.reduceBEq, Nat.reduceAdd, Nat.reduceEqDiff, Nat.reduceLT, Nat.reduceLeDiff, Nat.reduceMul, Nat.reduceSub, BEq.rfl, beq_self_eq_true, Int.reduceToNat]; (and_intros <;> first | rfl | (simp only [ob, ln, bdv, sv] at *; grind)))
def D_spec_l01DrawName : List AV → Option (AV × List AV × List Prop)
  | [x0] => some (.str ((spec_l01DrawName (rdQ dl00Src x0)).1), [(.op (el00Src ((spec_l01DrawName (rdQ dl00Src x0)).2)))], [wQ el00Src dl00Src x0, SrcOk 600000 (rdQ dl00Src x0)])
  | _ => none
theorem D_spec_l01DrawName_ok : OkM Tryz.prog 104 D_spec_l01DrawName := by
  intro xs r outs ob h ho
  unfold D_spec_l01DrawName at h
  split at h
  · simp only [Option.some.injEq, Prod.mk.injEq] at h
    obtain ⟨rfl, rfl, rfl⟩ := h
    obtain ⟨h0, hp0, _⟩ := ho
    exact DenM.sim (spec_l01DrawName_den _ hp0) (simOL_cons (wQ_sim h0) <| trivial)
  · cases h
end Go.Ab

namespace Go.Ab
open Go Go.Proofs
theorem SrcOk.name {n : Int} {s : l00Src} (h : SrcOk n s) (hn : n ≤ 2000000000) : SrcOk (n + 2) (spec_l29Name s).2 := by
  unfold spec_l29Name
  exact h.text hn
theorem name_bd (s : l00Src) : (spec_l29Name s).1.length ≤ 5 := by
  unfold spec_l29Name spec_l00Src_text
  exact bd_getD (p := fun v : List UInt8 => v.length ≤ 5) (by simp) (by decide) _
end Go.Ab

namespace Go.Ab
open Go Go.Proofs
theorem SrcOk.among {n : Int} {s : l00Src} {l} (h : SrcOk n s) (hn : n ≤ 2000000000) : SrcOk (n + 2) (spec_l00Src_among s l).2 := by
  unfold spec_l00Src_among
  exact h.pick hn
end Go.Ab

namespace Go.Ab
open Go Go.Proofs
theorem SrcOk.drawName {n : Int} {s : l00Src} (h : SrcOk n s) (hn : n ≤ 2000000000) : SrcOk (n + 2) (spec_l01DrawName s).2 := by
  unfold spec_l01DrawName
  exact h.text hn
theorem drawName_bd (s : l00Src) : (spec_l01DrawName s).1.length ≤ 11 := by
  unfold spec_l01DrawName spec_l00Src_text
  exact bd_getD (p := fun v : List UInt8 => v.length ≤ 11) (by simp) (by decide) _
end Go.Ab

namespace Go.Ab
open Go Go.Proofs
theorem spec_l29DrawEntry_DD : DOk Tryz.prog (DD [(102, dM [true] D_spec_l29Name), (103, dM [true, true] D_spec_l00Src_among), (104, dM [true] D_spec_l01DrawName), (59, dM [true, false] D_spec_l00Src_pick)]) := DD_cons D_spec_l29Name_ok.e <| DD_cons D_spec_l00Src_among_ok.e <| DD_cons D_spec_l01DrawName_ok.e <| DD_cons D_spec_l00Src_pick_ok.e <| DD_nil _
def spec_l29DrawEntry (a0 : l00Src) : Entry × l00Src :=
  (bif (((spec_l00Src_pick ((spec_l00Src_pick ((spec_l29Name ((spec_l00Src_pick a0 200).2)).2) 40).2) 24).1) == 0) then ({ Day := ((spec_l00Src_pick a0 200).1), Item := ((spec_l29Name ((spec_l00Src_pick a0 200).2)).1), Amount := ((spec_l00Src_among ((spec_l00Src_pick ((spec_l00Src_pick ((spec_l29Name ((spec_l00Src_pick a0 200).2)).2) 40).2) 24).2) [0, 1000, 1001, (-1001)]).1) : Entry }, (spec_l00Src_among ((spec_l00Src_pick ((spec_l00Src_pick ((spec_l29Name ((spec_l00Src_pick a0 200).2)).2) 40).2) 24).2) [0, 1000, 1001, (-1001)]).2) else (bif (((spec_l00Src_pick ((spec_l00Src_pick ((spec_l29Name ((spec_l00Src_pick a0 200).2)).2) 40).2) 24).1) == 1) then ({ Day := ((spec_l00Src_among ((spec_l00Src_pick ((spec_l00Src_pick ((spec_l29Name ((spec_l00Src_pick a0 200).2)).2) 40).2) 24).2) [(-1), 99999, 100000]).1), Item := ((spec_l29Name ((spec_l00Src_pick a0 200).2)).1), Amount := IntKind.wrap .i64 (((spec_l00Src_pick ((spec_l29Name ((spec_l00Src_pick a0 200).2)).2) 40).1) - 15) : Entry }, (spec_l00Src_among ((spec_l00Src_pick ((spec_l00Src_pick ((spec_l29Name ((spec_l00Src_pick a0 200).2)).2) 40).2) 24).2) [(-1), 99999, 100000]).2) else (bif (((spec_l00Src_pick ((spec_l00Src_pick ((spec_l29Name ((spec_l00Src_pick a0 200).2)).2) 40).2) 24).1) == 2) then ({ Day := ((spec_l00Src_pick a0 200).1), Item := ((spec_l01DrawName ((spec_l00Src_pick ((spec_l00Src_pick ((spec_l29Name ((spec_l00Src_pick a0 200).2)).2) 40).2) 24).2)).1), Amount := IntKind.wrap .i64 (((spec_l00Src_pick ((spec_l29Name ((spec_l00Src_pick a0 200).2)).2) 40).1) - 15) : Entry }, (spec_l01DrawName ((spec_l00Src_pick ((spec_l00Src_pick ((spec_l29Name ((spec_l00Src_pick a0 200).2)).2) 40).2) 24).2)).2) else ({ Day := ((spec_l00Src_pick a0 200).1), Item := ((spec_l29Name ((spec_l00Src_pick a0 200).2)).1), Amount := IntKind.wrap .i64 (((spec_l00Src_pick ((spec_l29Name ((spec_l00Src_pick a0 200).2)).2) 40).1) - 15) : Entry }, (spec_l00Src_pick ((spec_l00Src_pick ((spec_l29Name ((spec_l00Src_pick a0 200).2)).2) 40).2) 24).2))))
theorem spec_l29DrawEntry_den (a0 : l00Src) (hp0 : SrcOk 500000 a0) : DenM Tryz.prog 61 [.op (el00Src a0)] (.agg (eEntry ((spec_l29DrawEntry a0).1))) [(.op (el00Src ((spec_l29DrawEntry a0).2)))] := by
  generalize hR : spec_l29DrawEntry a0 = r
  unfold spec_l29DrawEntry at hR
  refine den_introM (gb := [true]) G_ok Tryz.func61 (by kernel_rfl) rfl Tryz.ntmps61 (by rw [Tryz.results61]) (by simp) ?_
  intro c hL hc hk
  obtain ⟨hL0, _⟩ := hL
  have hw0 : bwl00Src a0 := l00Src_lens a0 hL0
  clear hL0
  simp only [adEL, adE, adRL, adR, ownL, encL, sv, List.nil_append, List.append_nil, List.cons_append, List.length_cons, List.length_nil, pars, Nat.zero_add, Nat.reduceAdd] at hk ⊢
  refine AWP.seq ?_
  refine AWP.regS G_ok spec_l29DrawEntry_DD hc (by kernel_rfl) (fun K hK => ?_); simp only [ea, absV, absVL, gv, sv, D_spec_l29Name, D_spec_l00Src_among, D_spec_l01DrawName, D_spec_l00Src_pick, reduceCtorEq, reduceIte, Nat.reduceBEq, Nat.reduceAdd, Nat.reduceEqDiff, Nat.reduceLT, Nat.reduceLeDiff, Nat.reduceMul, Nat.reduceSub, BEq.rfl, beq_self_eq_true, Int.reduceToNat]
  (refine hK _ ?_)
  clear hK K
  refine AWP.seq ?_
  refine AWP.regS G_ok spec_l29DrawEntry_DD hc (by kernel_rfl) (fun K hK => ?_); simp only [ea, absV, absVL, gv, sv, D_spec_l29Name, D_spec_l00Src_among, D_spec_l01DrawName, D_spec_l00Src_pick, reduceCtorEq, reduceIte, Nat.reduceBEq, Nat.reduceAdd, Nat.reduceEqDiff, Nat.reduceLT, Nat.reduceLeDiff, Nat.reduceMul, Nat.reduceSub, BEq.rfl, beq_self_eq_true, Int.reduceToNat]
  (refine ⟨by (((try clear hK K); (repeat' (apply And.intro)) <;> first | trivial | (refine SrcOk.mono (by repeat' first | assumption | apply SrcOk.next | omega) (by omega)))), hK _ ?_⟩)
  clear hK K
  refine AWP.seq ?_
  refine AWP.seq ?_
  refine AWP.regS G_ok spec_l29DrawEntry_DD hc (by kernel_rfl) (fun K hK => ?_); simp only [ea, absV, absVL, gv, sv, D_spec_l29Name, D_spec_l00Src_among, D_spec_l01DrawName, D_spec_l00Src_pick, reduceCtorEq, reduceIte, Nat.reduceBEq, Nat.reduceAdd, Nat.reduceEqDiff, Nat.reduceLT, Nat.reduceLeDiff, Nat.reduceMul, Nat.reduceSub, BEq.rfl, beq_self_eq_true, Int.reduceToNat]
  (refine ⟨by (((try clear hK K); (repeat' (apply And.intro)) <;> first | trivial | (refine SrcOk.mono (by repeat' first | assumption | apply SrcOk.next | omega) (by omega)))), hK _ ?_⟩)
  clear hK K
  refine AWP.block ?_
  refine AWP.seq ?_
  refine AWP.regS G_ok spec_l29DrawEntry_DD hc (by kernel_rfl) (fun K hK => ?_); simp only [ea, absV, absVL, gv, sv, D_spec_l29Name, D_spec_l00Src_among, D_spec_l01DrawName, D_spec_l00Src_pick, reduceCtorEq, reduceIte, Nat.reduceBEq, Nat.reduceAdd, Nat.reduceEqDiff, Nat.reduceLT, Nat.reduceLeDiff, Nat.reduceMul, Nat.reduceSub, BEq.rfl, beq_self_eq_true, Int.reduceToNat]
  (refine hK _ ?_)
  clear hK K
  refine AWP.cond rfl (fun hb => ?_) (fun hb => ?_)
  · (simp only [hb, cond_true] at hR)
    refine AWP.regS G_ok spec_l29DrawEntry_DD hc (by kernel_rfl) (fun K hK => ?_); simp only [ea, absV, absVL, gv, sv, D_spec_l29Name, D_spec_l00Src_among, D_spec_l01DrawName, D_spec_l00Src_pick, reduceCtorEq, reduceIte, Nat.reduceBEq, Nat.reduceAdd, Nat.reduceEqDiff, Nat.reduceLT, Nat.reduceLeDiff, Nat.reduceMul, Nat.reduceSub, BEq.rfl, beq_self_eq_true, Int.reduceToNat]
    (refine ⟨by (((try clear hK K); (repeat' (apply And.intro)) <;> first | trivial | (refine SrcOk.mono (by repeat' first | assumption | apply SrcOk.next | omega) (by omega)))), hK _ ?_⟩)
    clear hK K
    refine AWP.seq ?_
    refine AWP.regS G_ok spec_l29DrawEntry_DD hc (by kernel_rfl) (fun K hK => ?_); simp only [ea, absV, absVL, gv, sv, D_spec_l29Name, D_spec_l00Src_among, D_spec_l01DrawName, D_spec_l00Src_pick, reduceCtorEq, reduceIte, Nat.reduceBEq, Nat.reduceAdd, Nat.reduceEqDiff, Nat.reduceLT, Nat.reduceLeDiff, Nat.reduceMul, Nat.reduceSub, BEq.rfl, beq_self_eq_true, Int.reduceToNat]
    (refine hK _ ?_)
    clear hK K
    refine AWP.ret ?_
    subst hR
    (simp only [en, si, ea, gv, sv, hk, reduceCtorEq, reduceIte, Nat.reduceBEq, Nat.reduceAdd, Nat.reduceEqDiff, Nat.reduceLT, Nat.reduceLeDiff, Nat.reduceMul, Nat.reduceSub, BEq.rfl, beq_self_eq_true, Int.reduceToNat]; done)
  · (simp only [hb, cond_false] at hR)
    refine AWP.seq ?_
    refine AWP.regS G_ok spec_l29DrawEntry_DD hc (by kernel_rfl) (fun K hK => ?_); simp only [ea, absV, absVL, gv, sv, D_spec_l29Name, D_spec_l00Src_among, D_spec_l01DrawName, D_spec_l00Src_pick, reduceCtorEq, reduceIte, Nat.reduceBEq, Nat.reduceAdd, Nat.reduceEqDiff, Nat.reduceLT, Nat.reduceLeDiff, Nat.reduceMul, Nat.reduceSub, BEq.rfl, beq_self_eq_true, Int.reduceToNat]
    (refine hK _ ?_)
    clear hK K
    refine AWP.cond rfl (fun hb => ?_) (fun hb => ?_)
    · (simp only [hb, cond_true] at hR)
      refine AWP.regS G_ok spec_l29DrawEntry_DD hc (by kernel_rfl) (fun K hK => ?_); simp only [ea, absV, absVL, gv, sv, D_spec_l29Name, D_spec_l00Src_among, D_spec_l01DrawName, D_spec_l00Src_pick, reduceCtorEq, reduceIte, Nat.reduceBEq, Nat.reduceAdd, Nat.reduceEqDiff, Nat.reduceLT, Nat.reduceLeDiff, Nat.reduceMul, Nat.reduceSub, BEq.rfl, beq_self_eq_true, Int.reduceToNat]
      (refine ⟨by (((try clear hK K); (repeat' (apply And.intro)) <;> first | trivial | (refine SrcOk.mono (by repeat' first | assumption | apply SrcOk.next | omega) (by omega)))), hK _ ?_⟩)
      clear hK K
      refine AWP.seq ?_
      refine AWP.regS G_ok spec_l29DrawEntry_DD hc (by kernel_rfl) (fun K hK => ?_); simp only [ea, absV, absVL, gv, sv, D_spec_l29Name, D_spec_l00Src_among, D_spec_l01DrawName, D_spec_l00Src_pick, reduceCtorEq, reduceIte, Nat.reduceBEq, Nat.reduceAdd, Nat.reduceEqDiff, Nat.reduceLT, Nat.reduceLeDiff, Nat.reduceMul, Nat.reduceSub, BEq.rfl, beq_self_eq_true, Int.reduceToNat]
      (refine hK _ ?_)
      clear hK K
      refine AWP.ret ?_
      subst hR
      (simp only [en, si, ea, gv, sv, hk, reduceCtorEq, reduceIte, Nat.reduceBEq, Nat.reduceAdd, Nat.reduceEqDiff, Nat.reduceLT, Nat.reduceLeDiff, Nat.reduceMul, Nat.reduceSub, BEq.rfl, beq_self_eq_true, Int.reduceToNat]; done)
    · (simp only [hb, cond_false] at hR)
      refine AWP.seq ?_
      refine AWP.regS G_ok spec_l29DrawEntry_DD hc (by kernel_rfl) (fun K hK => ?_); simp only [ea, absV, absVL, gv, sv, D_spec_l29Name, D_spec_l00Src_among, D_spec_l01DrawName, D_spec_l00Src_pick, reduceCtorEq, reduceIte, Nat.reduceBEq, Nat.reduceAdd, Nat.reduceEqDiff, Nat.reduceLT, Nat.reduceLeDiff, Nat.reduceMul, Nat.reduceSub, BEq.rfl, beq_self_eq_true, Int.reduceToNat]
      (refine hK _ ?_)
      clear hK K
      refine AWP.cond rfl (fun hb => ?_) (fun hb => ?_)
      · (simp only [hb, cond_true] at hR)
        refine AWP.regS G_ok spec_l29DrawEntry_DD hc (by kernel_rfl) (fun K hK => ?_); simp only [ea, absV, absVL, gv, sv, D_spec_l29Name, D_spec_l00Src_among, D_spec_l01DrawName, D_spec_l00Src_pick, reduceCtorEq, reduceIte, Nat.reduceBEq, Nat.reduceAdd, Nat.reduceEqDiff, Nat.reduceLT, Nat.reduceLeDiff, Nat.reduceMul, Nat.reduceSub, BEq.rfl, beq_self_eq_true, Int.reduceToNat]
        (refine ⟨by (((try clear hK K); (repeat' (apply And.intro)) <;> first | trivial | (refine SrcOk.mono (by repeat' first | assumption | apply SrcOk.next | omega) (by omega)))), hK _ ?_⟩)
        clear hK K
        refine AWP.seq ?_
        refine AWP.regS G_ok spec_l29DrawEntry_DD hc (by kernel_rfl) (fun K hK => ?_); simp only [ea, absV, absVL, gv, sv, D_spec_l29Name, D_spec_l00Src_among, D_spec_l01DrawName, D_spec_l00Src_pick, reduceCtorEq, reduceIte, Nat.reduceBEq, Nat.reduceAdd, Nat.reduceEqDiff, Nat.reduceLT, Nat.reduceLeDiff, Nat.reduceMul, Nat.reduceSub, BEq.rfl, beq_self_eq_true, Int.reduceToNat]
        (refine hK _ ?_)
        clear hK K
        refine AWP.ret ?_
        subst hR
        (simp only [en, si, ea, gv, sv, hk, reduceCtorEq, reduceIte, Nat.reduceBEq, Nat.reduceAdd, Nat.reduceEqDiff, Nat.reduceLT, Nat.reduceLeDiff, Nat.reduceMul, Nat.reduceSub, BEq.rfl, beq_self_eq_true, Int.reduceToNat]; done)
      · (simp only [hb, cond_false] at hR)
        refine AWP.skip ?_
        refine AWP.seq ?_
        refine AWP.regS G_ok spec_l29DrawEntry_DD hc (by kernel_rfl) (fun K hK => ?_); simp only [ea, absV, absVL, gv, sv, D_spec_l29Name, D_spec_l00Src_among, D_spec_l01DrawName, D_spec_l00Src_pick, reduceCtorEq, reduceIte, Nat.reduceBEq, Nat.reduceAdd, Nat.reduceEqDiff, Nat.reduceLT, Nat.reduceLeDiff, Nat.reduceMul, Nat.reduceSub, BEq.rfl, beq_self_eq_true, Int.reduceToNat]
        (refine hK _ ?_)
        clear hK K
        refine AWP.ret ?_
        subst hR
        (simp only [en, si, ea, gv, sv, hk, reduceCtorEq, reduceIte, Nat.reduceBEq, Nat.reduceAdd, Nat.reduceEqDiff, Nat.reduceLT, Nat.reduceLeDiff, Nat.reduceMul, Nat.reduceSub, BEq.rfl, beq_self_eq_true, Int.reduceToNat]; done)
def D_spec_l29DrawEntry : List AV → Option (AV × List AV × List Prop)
  | [x0] => some (.agg (eEntry ((spec_l29DrawEntry (rdQ dl00Src x0)).1)), [(.op (el00Src ((spec_l29DrawEntry (rdQ dl00Src x0)).2)))], [wQ el00Src dl00Src x0, SrcOk 500000 (rdQ dl00Src x0)])
  | _ => none
theorem D_spec_l29DrawEntry_ok : OkM Tryz.prog 61 D_spec_l29DrawEntry := by
  intro xs r outs ob h ho
  unfold D_spec_l29DrawEntry at h
  split at h
  · simp only [Option.some.injEq, Prod.mk.injEq] at h
    obtain ⟨rfl, rfl, rfl⟩ := h
    obtain ⟨h0, hp0, _⟩ := ho
    exact DenM.sim (spec_l29DrawEntry_den _ hp0) (simOL_cons (wQ_sim h0) <| trivial)
  · cases h
end Go.Ab

namespace Go.Ab
open Go Go.Proofs
theorem SrcOk.base {n : Int} {s : l00Src} (h : SrcOk n s) (hn : n ≤ 2000000000) : SrcOk (n + 2) (spec_l29Base s).2 := by
  unfold spec_l29Base
  exact h.pick hn
end Go.Ab

namespace Go.Ab
open Go Go.Proofs
theorem spec_AddEntry_keep (a : Store) (e : Entry) (hl : a.Entries.length ≤ 48) (h : (spec_AddEntry a e).2 = 0) :
    (spec_AddEntry a e).1.Spares = a.Spares ∧ (spec_AddEntry a e).1.Entries.length ≤ 48 ∧ (∀ v, v ∈ (spec_AddEntry a e).1.Entries → v ∈ a.Entries ∨ v = e) := by
  unfold spec_AddEntry at h ⊢
  cases hv : ((!(spec_l29Ok a)) || (!(spec_l29Entry e))) with
  | true => rw [hv] at h; simp at h
  | false =>
    rw [hv] at h
    simp only [cond_false] at h ⊢
    exact spec_l29Add_keep a e hl h
end Go.Ab

namespace Go.Ab
open Go Go.Proofs
theorem SrcOk.entry {n : Int} {s : l00Src} (h : SrcOk n s) (hn : n ≤ 1000000000) : SrcOk (n + 10) (spec_l29DrawEntry s).2 := by
  have h1 := h.pick (m := 200) (by omega)
  have h2 := h1.name (by omega)
  have h3 := h2.pick (m := 40) (by omega)
  have h4 := h3.pick (m := 24) (by omega)
  unfold spec_l29DrawEntry
  simp only [Bool.cond_eq_ite]
  repeat' split
  all_goals first
    | exact (h4.among (by omega)).mono (by omega)
    | exact (h4.drawName (by omega)).mono (by omega)
    | exact h4.mono (by omega)
theorem entry_bd (s : l00Src) : (spec_l29DrawEntry s).1.Item.length ≤ 11 := by
  unfold spec_l29DrawEntry
  simp only [Bool.cond_eq_ite]
  repeat' split
  all_goals first
    | (have := name_bd (spec_l00Src_pick s 200).2; simp only; omega)
    | exact drawName_bd _
end Go.Ab

namespace Go.Ab
open Go Go.Proofs
theorem spec_l29Draw_DD : DOk Tryz.prog (DD [(58, dM [true] D_spec_l29Base), (59, dM [true, false] D_spec_l00Src_pick), (60, dP D_spec_AddEntry), (61, dM [true] D_spec_l29DrawEntry)]) := DD_cons D_spec_l29Base_ok.e <| DD_cons D_spec_l00Src_pick_ok.e <| DD_cons D_spec_AddEntry_ok.e <| DD_cons D_spec_l29DrawEntry_ok.e <| DD_nil _
def spec_l29Draw_b1 (a0 : l00Src) (s1 : Int × l00Src × List Spare × List Entry) : Except (Sum (Store × l00Src) (Int × l00Src × List Spare × List Entry)) (Int × l00Src × List Spare × List Entry) :=
  (bif decide (0 < s1.1) then (bif (((spec_AddEntry ({ Spares := s1.2.2.1, Entries := s1.2.2.2 : Store }) ((spec_l29DrawEntry s1.2.1).1)).2) == 0) then .ok (IntKind.wrap .i64 (s1.1 - 1), (spec_l29DrawEntry s1.2.1).2, ((spec_AddEntry ({ Spares := s1.2.2.1, Entries := s1.2.2.2 : Store }) ((spec_l29DrawEntry s1.2.1).1)).1).Spares, ((spec_AddEntry ({ Spares := s1.2.2.1, Entries := s1.2.2.2 : Store }) ((spec_l29DrawEntry s1.2.1).1)).1).Entries) else .ok (IntKind.wrap .i64 (s1.1 - 1), (spec_l29DrawEntry s1.2.1).2, s1.2.2.1, s1.2.2.2)) else .error (.inr (s1.1, s1.2.1, s1.2.2.1, s1.2.2.2)))
def spec_l29Draw (a0 : l00Src) : Store × l00Src :=
  (match loopW (spec_l29Draw_b1 a0) (((((spec_l00Src_pick ((spec_l29Base a0).2) 10).1)).toNat) + 1) (((spec_l00Src_pick ((spec_l29Base a0).2) 10).1), (spec_l00Src_pick ((spec_l29Base a0).2) 10).2, ((spec_l29Base a0).1).Spares, ((spec_l29Base a0).1).Entries) with | .error (.inl e) => e | .error (.inr s1) => ({ Spares := s1.2.2.1, Entries := s1.2.2.2 : Store }, s1.2.1) | .ok _ => default)
set_option maxHeartbeats 2000000 in
theorem spec_l29Draw_den (a0 : l00Src) (hb0 : bdl00Src a0) (hp0 : SrcOk 400000 a0) : DenM Tryz.prog 27 [.op (el00Src a0)] (.agg (eStoreO ((spec_l29Draw a0).1))) [(.op (el00Src ((spec_l29Draw a0).2)))] := by
  generalize hR : spec_l29Draw a0 = r
  unfold spec_l29Draw at hR
  refine den_introM (gb := [true]) G_ok Tryz.func27 (by kernel_rfl) rfl Tryz.ntmps27 (by rw [Tryz.results27]) (by simp) ?_
  intro c hL hc hk
  obtain ⟨hL0, _⟩ := hL
  have hw0 : bwl00Src a0 := l00Src_lens a0 hL0
  clear hL0
  simp only [adEL, adE, adRL, adR, ownL, encL, sv, List.nil_append, List.append_nil, List.cons_append, List.length_cons, List.length_nil, pars, Nat.zero_add, Nat.reduceAdd] at hk ⊢
  refine AWP.seq ?_
  refine AWP.regS G_ok spec_l29Draw_DD hc (by kernel_rfl) (fun K hK => ?_); simp only [ea, absV, absVL, gv, sv, D_spec_l29Base, D_spec_l00Src_pick, D_spec_AddEntry, D_spec_l29DrawEntry, reduceCtorEq, reduceIte, Nat.reduceBEq, Nat.reduceAdd, Nat.reduceEqDiff, Nat.reduceLT, Nat.reduceLeDiff, Nat.reduceMul, Nat.reduceSub, BEq.rfl, beq_self_eq_true, Int.reduceToNat]
  (refine hK _ ?_)
  clear hK K
  refine AWP.seq ?_
  refine AWP.regS G_ok spec_l29Draw_DD hc (by kernel_rfl) (fun K hK => ?_); simp only [ea, absV, absVL, gv, sv, D_spec_l29Base, D_spec_l00Src_pick, D_spec_AddEntry, D_spec_l29DrawEntry, reduceCtorEq, reduceIte, Nat.reduceBEq, Nat.reduceAdd, Nat.reduceEqDiff, Nat.reduceLT, Nat.reduceLeDiff, Nat.reduceMul, Nat.reduceSub, BEq.rfl, beq_self_eq_true, Int.reduceToNat]
  (refine ⟨by (((try clear hK K); (repeat' (apply And.intro)) <;> first | trivial | (refine SrcOk.mono (by repeat' assumption) (by omega)))), hK _ ?_⟩)
  clear hK K
  refine AWP.seq ?_
  refine AWP.seq ?_
  refine AWP.regS G_ok spec_l29Draw_DD hc (by kernel_rfl) (fun K hK => ?_); simp only [ea, absV, absVL, gv, sv, D_spec_l29Base, D_spec_l00Src_pick, D_spec_AddEntry, D_spec_l29DrawEntry, reduceCtorEq, reduceIte, Nat.reduceBEq, Nat.reduceAdd, Nat.reduceEqDiff, Nat.reduceLT, Nat.reduceLeDiff, Nat.reduceMul, Nat.reduceSub, BEq.rfl, beq_self_eq_true, Int.reduceToNat]
  (refine ⟨by (((try clear hK K); (repeat' (apply And.intro)) <;> first | trivial | (refine SrcOk.mono (by repeat' first | assumption | apply SrcOk.next | omega) (by omega)))), hK _ ?_⟩)
  clear hK K
  refine AWP.block ?_
  generalize hz1 : loopW (spec_l29Draw_b1 a0) (((((spec_l00Src_pick ((spec_l29Base a0).2) 10).1)).toNat) + 1) (((spec_l00Src_pick ((spec_l29Base a0).2) 10).1), (spec_l00Src_pick ((spec_l29Base a0).2) 10).2, ((spec_l29Base a0).1).Spares, ((spec_l29Base a0).1).Entries) = z1 at hR
  refine AWP.whileW (spec_l29Draw_b1 a0) (fun s1 => ⟨[(0, .ptr 0 0), (2, .ptr 1 0), (3, .ptr 2 0), (4, .int .i64 s1.1)], [.box [encL 1 eIu8 s1.2.1.code, .int .i64 s1.2.1.at_, .int .u64 s1.2.1.seed], .box [.nils, .nils], .box [.ref 3 3 0 s1.2.2.1.length, .ref 4 3 0 s1.2.2.2.length], .arr 30 3 s1.2.2.1.length (fun j => eSpare (s1.2.2.1.getD j default)), .arr 33 3 s1.2.2.2.length (fun j => eEntry (s1.2.2.2.getD j default))]⟩) (fun s1 => 0 ≤ s1.1 ∧ s1.1 ≤ 9 ∧ SrcOk (400100 + 100 * (9 - s1.1)) s1.2.1 ∧ s1.2.2.1.length ≤ 16 ∧ s1.2.2.2.length ≤ 48 ∧ (∀ v ∈ s1.2.2.1, bdSpare v) ∧ ∀ v ∈ s1.2.2.2, bdEntry v) (fun s1 => (s1.1).toNat) (((((spec_l00Src_pick ((spec_l29Base a0).2) 10).1)).toNat) + 1) (((spec_l00Src_pick ((spec_l29Base a0).2) 10).1), (spec_l00Src_pick ((spec_l29Base a0).2) 10).2, ((spec_l29Base a0).1).Spares, ((spec_l29Base a0).1).Entries) [0, 1, 4, 2, 3] hz1 (by omega) (by (have h1 := hp0.base (by omega); have h2 := pick_range 10 h1 (by omega); exact ⟨h2.1, by have := h2.2 (by omega); omega, SrcOk.mono (h1.pick (by omega)) (by have := h2.2 (by omega); omega), by simp [spec_l29Base], by simp [spec_l29Base], by simp [spec_l29Base, bdSpare, bdS], by simp [spec_l29Base]⟩)) (by (simp only [si, ea, gv, sv, hk, reduceCtorEq, reduceIte, Nat.reduceBEq, Nat.reduceAdd, Nat.reduceEqDiff, Nat.reduceLT, Nat.reduceLeDiff, Nat.reduceMul, Nat.reduceSub, BEq.rfl, beq_self_eq_true, Int.reduceToNat]; trivial)) ?_
  clear hz1
  intro s1 k1 hW1 hm1 hz1
  simp only [spec_l29Draw_b1] at hz1
  refine AWP.seq ?_
  refine AWP.seq ?_
  refine AWP.regS G_ok spec_l29Draw_DD hc (by kernel_rfl) (fun K hK => ?_); simp only [ea, absV, absVL, gv, sv, D_spec_l29Base, D_spec_l00Src_pick, D_spec_AddEntry, D_spec_l29DrawEntry, reduceCtorEq, reduceIte, Nat.reduceBEq, Nat.reduceAdd, Nat.reduceEqDiff, Nat.reduceLT, Nat.reduceLeDiff, Nat.reduceMul, Nat.reduceSub, BEq.rfl, beq_self_eq_true, Int.reduceToNat]
  (refine hK _ ?_)
  clear hK K
  refine AWP.cond rfl (fun hb => ?_) (fun hb => ?_)
  · (simp only [hb, cond_true] at hz1)
    refine AWP.skip ?_
    refine AWP.seq ?_
    refine AWP.block ?_
    refine AWP.seq ?_
    refine AWP.regP mixed G_ok spec_l29Draw_DD hc 9 [0, 1] (.alt 2 [] [0] (.alt 3 [4, 5, 6] [4, 5, 6] (.alt 7 [] [4, 5, 6] (.alt 8 [] [6] .leaf .stop) .stop) (.alt 7 [] [0] (.alt 3 [4, 5, 6] [4, 5, 6] (.alt 8 [] [6] .leaf .stop) .stop) .stop)) (.alt 7 [] [0, 1] (.alt 2 [] [0] (.alt 3 [4, 5, 6] [4, 5, 6] (.alt 8 [] [6] .leaf .stop) .stop) .stop) .stop)) (by kernel_rfl) (by kernel_rfl) (by kernel_rfl) (fun K hK => ?_)
    refine join_sim ⟨[(0, .ptr 0 0), (2, .ptr 1 0), (3, .ptr 2 0), (4, .int .i64 s1.1), (5, .ptr 5 0), (6, .int .i64 ((spec_AddEntry ({ Spares := s1.2.2.1, Entries := s1.2.2.2 : Store }) ((spec_l29DrawEntry s1.2.1).1)).2))], [.box [encL 1 eIu8 (((spec_l29DrawEntry s1.2.1).2).code), .int .i64 (((spec_l29DrawEntry s1.2.1).2).at_), .int .u64 (((spec_l29DrawEntry s1.2.1).2).seed)], .box [.nils, .nils], .box [.ref 3 3 0 s1.2.2.1.length, .ref 4 3 0 s1.2.2.2.length], .arr 30 3 s1.2.2.1.length (fun j => eSpare (s1.2.2.1.getD j default)), .arr 33 3 s1.2.2.2.length (fun j => eEntry (s1.2.2.2.getD j default)), .box [.ref 6 3 0 ((((spec_AddEntry ({ Spares := s1.2.2.1, Entries := s1.2.2.2 : Store }) ((spec_l29DrawEntry s1.2.1).1)).1).Spares).length), .ref 7 3 0 ((((spec_AddEntry ({ Spares := s1.2.2.1, Entries := s1.2.2.2 : Store }) ((spec_l29DrawEntry s1.2.1).1)).1).Entries).length)], .arr 30 3 (((spec_AddEntry ({ Spares := s1.2.2.1, Entries := s1.2.2.2 : Store }) ((spec_l29DrawEntry s1.2.1).1)).1).Spares).length (fun j => eSpare ((((spec_AddEntry ({ Spares := s1.2.2.1, Entries := s1.2.2.2 : Store }) ((spec_l29DrawEntry s1.2.1).1)).1).Spares).getD j default)), .arr 33 3 (((spec_AddEntry ({ Spares := s1.2.2.1, Entries := s1.2.2.2 : Store }) ((spec_l29DrawEntry s1.2.1).1)).1).Entries).length (fun j => eEntry ((((spec_AddEntry ({ Spares := s1.2.2.1, Entries := s1.2.2.2 : Store }) ((spec_l29DrawEntry s1.2.1).1)).1).Entries).getD j default))]⟩ hK ?_ (fun hJ => ?_)
    rotate_left
    · simp only [rootP, runN, runP, recheck, nthO, ea, absV, absVL, gv, sv, D_spec_l29Base, D_spec_l00Src_pick, D_spec_AddEntry, D_spec_l29DrawEntry, reduceCtorEq, reduceIte, Nat.reduceBEq, Nat.reduceAdd, Nat.reduceEqDiff, Nat.reduceLT, Nat.reduceLeDiff, Nat.reduceMul, Nat.reduceSub, BEq.rfl, beq_self_eq_true, Int.reduceToNat]
      repeat' apply And.intro
      all_goals first | (refine hJ _ [0, 1, 2, 3, 4, 7, 5, 6] ?_; (simp only [si, ea, gv, sv, hk, reduceCtorEq, reduceIte, Nat.reduceBEq, Nat.reduceAdd, Nat.reduceEqDiff, Nat.reduceLT, Nat.reduceLeDiff, Nat.reduceMul, Nat.reduceSub, BEq.rfl, beq_self_eq_true, Int.reduceToNat]; trivial)) | (refine hJ _ [0, 1, 2, 3, 4, 5, 6, 7] ?_; (simp only [si, ea, gv, sv, hk, reduceCtorEq, reduceIte, Nat.reduceBEq, Nat.reduceAdd, Nat.reduceEqDiff, Nat.reduceLT, Nat.reduceLeDiff, Nat.reduceMul, Nat.reduceSub, BEq.rfl, beq_self_eq_true, Int.reduceToNat]; trivial)) | (first | trivial | omega | (simp only [ob, ln, bdv, sv] at *; omega) | ((try clear hK K); (repeat' (intro _)) <;> first | exact SrcOk.mono hW1.2.2.1 (by omega) | (have he := entry_bd s1.2.1; show List.length _ < 1099511627776; omega) | (simp only [ob, ln, bdv, sv] at *; (simp_all; done))))
    clear hK K
    refine AWP.seq ?_
    refine AWP.regS G_ok spec_l29Draw_DD hc (by kernel_rfl) (fun K hK => ?_); simp only [ea, absV, absVL, gv, sv, D_spec_l29Base, D_spec_l00Src_pick, D_spec_AddEntry, D_spec_l29DrawEntry, reduceCtorEq, reduceIte, Nat.reduceBEq, Nat.reduceAdd, Nat.reduceEqDiff, Nat.reduceLT, Nat.reduceLeDiff, Nat.reduceMul, Nat.reduceSub, BEq.rfl, beq_self_eq_true, Int.reduceToNat]
    (refine hK _ ?_)
    clear hK K
    refine AWP.cond rfl (fun hb => ?_) (fun hb => ?_)
    · (simp only [hb, cond_true] at hz1)
      refine AWP.regS G_ok spec_l29Draw_DD hc (by kernel_rfl) (fun K hK => ?_); simp only [ea, absV, absVL, gv, sv, D_spec_l29Base, D_spec_l00Src_pick, D_spec_AddEntry, D_spec_l29DrawEntry, reduceCtorEq, reduceIte, Nat.reduceBEq, Nat.reduceAdd, Nat.reduceEqDiff, Nat.reduceLT, Nat.reduceLeDiff, Nat.reduceMul, Nat.reduceSub, BEq.rfl, beq_self_eq_true, Int.reduceToNat]
      (refine hK _ ?_)
      clear hK K
      refine AWP.regS G_ok spec_l29Draw_DD hc (by kernel_rfl) (fun K hK => ?_); simp only [ea, absV, absVL, gv, sv, D_spec_l29Base, D_spec_l00Src_pick, D_spec_AddEntry, D_spec_l29DrawEntry, reduceCtorEq, reduceIte, Nat.reduceBEq, Nat.reduceAdd, Nat.reduceEqDiff, Nat.reduceLT, Nat.reduceLeDiff, Nat.reduceMul, Nat.reduceSub, BEq.rfl, beq_self_eq_true, Int.reduceToNat]
      (refine hK _ ?_)
      clear hK K
      exact ⟨_, [0, 1, 2, 6, 7], by (have hpos : 0 < s1.1 := of_decide_eq_true (by assumption); simp only [IntKind.wrap_i64]; omega), by (have hS := SrcOk.entry hW1.2.2.1 (by omega); have hpos : 0 < s1.1 := of_decide_eq_true (by assumption); have hwr : IntKind.wrap .i64 (s1.1 - 1) = s1.1 - 1 := (by rw [IntKind.wrap_i64]; omega); (have hk9 := spec_AddEntry_keep ({ Spares := s1.2.2.1, Entries := s1.2.2.2 : Store }) ((spec_l29DrawEntry s1.2.1).1) hW1.2.2.2.2.1 (by simpa using hb); refine ⟨by omega, by omega, SrcOk.mono hS (by omega), by rw [hk9.1]; exact hW1.2.2.2.1, hk9.2.1, by rw [hk9.1]; exact hW1.2.2.2.2.2.1, fun v hv => ?_⟩; rcases hk9.2.2 v hv with h | h; exact hW1.2.2.2.2.2.2 v h; subst h; have := entry_bd s1.2.1; show List.length _ < 1099511627776; omega)), hz1, by (simp only [si, ea, gv, sv, hk, reduceCtorEq, reduceIte, Nat.reduceBEq, Nat.reduceAdd, Nat.reduceEqDiff, Nat.reduceLT, Nat.reduceLeDiff, Nat.reduceMul, Nat.reduceSub, BEq.rfl, beq_self_eq_true, Int.reduceToNat]; trivial)⟩
    · (simp only [hb, cond_false] at hz1)
      refine AWP.skip ?_
      refine AWP.regS G_ok spec_l29Draw_DD hc (by kernel_rfl) (fun K hK => ?_); simp only [ea, absV, absVL, gv, sv, D_spec_l29Base, D_spec_l00Src_pick, D_spec_AddEntry, D_spec_l29DrawEntry, reduceCtorEq, reduceIte, Nat.reduceBEq, Nat.reduceAdd, Nat.reduceEqDiff, Nat.reduceLT, Nat.reduceLeDiff, Nat.reduceMul, Nat.reduceSub, BEq.rfl, beq_self_eq_true, Int.reduceToNat]
      (refine hK _ ?_)
      clear hK K
      exact ⟨_, [0, 1, 2, 3, 4], by (have hpos : 0 < s1.1 := of_decide_eq_true (by assumption); simp only [IntKind.wrap_i64]; omega), by (have hS := SrcOk.entry hW1.2.2.1 (by omega); have hpos : 0 < s1.1 := of_decide_eq_true (by assumption); have hwr : IntKind.wrap .i64 (s1.1 - 1) = s1.1 - 1 := (by rw [IntKind.wrap_i64]; omega); (exact ⟨by omega, by omega, SrcOk.mono hS (by omega), hW1.2.2.2⟩)), hz1, by (simp only [si, ea, gv, sv, hk, reduceCtorEq, reduceIte, Nat.reduceBEq, Nat.reduceAdd, Nat.reduceEqDiff, Nat.reduceLT, Nat.reduceLeDiff, Nat.reduceMul, Nat.reduceSub, BEq.rfl, beq_self_eq_true, Int.reduceToNat]; trivial)⟩
  · (simp only [hb, cond_false] at hz1)
    refine AWP.exit ?_
    refine exitTo_here ?_
    subst hz1; dsimp only at hR
    refine AWP.seq ?_
    refine AWP.regS G_ok spec_l29Draw_DD hc (by kernel_rfl) (fun K hK => ?_); simp only [ea, absV, absVL, gv, sv, D_spec_l29Base, D_spec_l00Src_pick, D_spec_AddEntry, D_spec_l29DrawEntry, reduceCtorEq, reduceIte, Nat.reduceBEq, Nat.reduceAdd, Nat.reduceEqDiff, Nat.reduceLT, Nat.reduceLeDiff, Nat.reduceMul, Nat.reduceSub, BEq.rfl, beq_self_eq_true, Int.reduceToNat]
    (refine hK _ ?_)
    clear hK K
    refine AWP.ret ?_
    subst hR
    (simp only [en, si, ea, gv, sv, hk, reduceCtorEq, reduceIte, Nat.reduceBEq, Nat.reduceAdd, Nat.reduceEqDiff, Nat.reduceLT, Nat.reduceLeDiff, Nat.reduceMul, Nat.reduceSub, BEq.rfl, beq_self_eq_true, Int.reduceToNat]; (and_intros <;> omega))
def D_spec_l29Draw : List AV → Option (AV × List AV × List Prop)
  | [x0] => some (.agg (eStoreO ((spec_l29Draw (rdQ dl00Src x0)).1)), [(.op (el00Src ((spec_l29Draw (rdQ dl00Src x0)).2)))], [wQ el00Src dl00Src x0, bdl00Src (rdQ dl00Src x0), SrcOk 400000 (rdQ dl00Src x0)])
  | _ => none
theorem D_spec_l29Draw_ok : OkM Tryz.prog 27 D_spec_l29Draw := by
  intro xs r outs ob h ho
  unfold D_spec_l29Draw at h
  split at h
  · simp only [Option.some.injEq, Prod.mk.injEq] at h
    obtain ⟨rfl, rfl, rfl⟩ := h
    obtain ⟨h0, hb0, hp0, _⟩ := ho
    exact DenM.sim (spec_l29Draw_den _ hb0 hp0) (simOL_cons (wQ_sim h0) <| trivial)
  · cases h
end Go.Ab

namespace Go.Ab
open Go Go.Proofs
theorem spec_R8Store_DD : DOk Tryz.prog (DD [(26, dP D_spec_l00From), (27, dM [true] D_spec_l29Draw)]) := DD_cons D_spec_l00From_ok.e <| DD_cons D_spec_l29Draw_ok.e <| DD_nil _
def spec_R8Store (a0 : (List Int)) : Store :=
  { Spares := ((spec_l29Draw (spec_l00From a0)).1).Spares, Entries := ((spec_l29Draw (spec_l00From a0)).1).Entries : Store }
set_option maxHeartbeats 1000000 in
theorem spec_R8Store_den (a0 : (List Int)) (hb0 : a0.length < 1099511627776) (hp0 : ∀ v ∈ a0, 0 ≤ v ∧ v ≤ 255) : Den Tryz.prog 8 [encL 1 eIu8 a0] (.agg (eStoreO (spec_R8Store a0))) := by
  generalize hR : spec_R8Store a0 = r
  unfold spec_R8Store at hR
  refine den_intro G_ok Tryz.func8 (by kernel_rfl) rfl Tryz.ntmps8 (by rw [Tryz.results8]) (by simp) rfl ?_
  intro c hL hc hk
  obtain ⟨hL0, _⟩ := hL
  have hw0 : a0.length < 9223372036854775808 := Nat.lt_succ_of_le (lens_encL hL0).1
  clear hL0
  simp only [pars, Nat.zero_add]
  refine AWP.seq ?_
  refine AWP.regS G_ok spec_R8Store_DD hc (by kernel_rfl) (fun K hK => ?_); simp only [ea, absV, absVL, gv, sv, D_spec_l00From, D_spec_l29Draw, reduceCtorEq, reduceIte, Nat.reduceBEq, Nat.reduceAdd, Nat.reduceEqDiff, Nat.reduceLT, Nat.reduceLeDiff, Nat.reduceMul, Nat.reduceSub, BEq.rfl, beq_self_eq_true, Int.reduceToNat]
  (refine hK _ ?_)
  clear hK K
  refine AWP.seq ?_
  refine AWP.regS G_ok spec_R8Store_DD hc (by kernel_rfl) (fun K hK => ?_); simp only [ea, absV, absVL, gv, sv, D_spec_l00From, D_spec_l29Draw, reduceCtorEq, reduceIte, Nat.reduceBEq, Nat.reduceAdd, Nat.reduceEqDiff, Nat.reduceLT, Nat.reduceLeDiff, Nat.reduceMul, Nat.reduceSub, BEq.rfl, beq_self_eq_true, Int.reduceToNat]
  (refine hK _ ?_)
  clear hK K
  refine AWP.seq ?_
  refine AWP.regS G_ok spec_R8Store_DD hc (by kernel_rfl) (fun K hK => ?_); simp only [ea, absV, absVL, gv, sv, D_spec_l00From, D_spec_l29Draw, reduceCtorEq, reduceIte, Nat.reduceBEq, Nat.reduceAdd, Nat.reduceEqDiff, Nat.reduceLT, Nat.reduceLeDiff, Nat.reduceMul, Nat.reduceSub, BEq.rfl, beq_self_eq_true, Int.reduceToNat]
  (refine ⟨by (((try clear hK K); (repeat' (apply And.intro)) <;> first | trivial | solve_by_elim)), hK _ ?_⟩)
  clear hK K
  refine AWP.ret ?_
  subst hR
  (simp only [en, si, ea, gv, sv, hk, reduceCtorEq, reduceIte, Nat.reduceBEq, Nat.reduceAdd, Nat.reduceEqDiff, Nat.reduceLT, Nat.reduceLeDiff, Nat.reduceMul, Nat.reduceSub, BEq.rfl, beq_self_eq_true, Int.reduceToNat]; (and_intros <;> omega))
def D_spec_R8Store : DF
  | [x0] => some (.agg (eStoreO (spec_R8Store (rdL dIu8 x0))), false, [wL 1 eIu8 dIu8 x0, (rdL dIu8 x0).length < 1099511627776, ∀ v ∈ (rdL dIu8 x0), 0 ≤ v ∧ v ≤ 255])
  | _ => none
def Dz_spec_R8Store : DF
  | [x0] => some (.agg (eStoreO (spec_R8Store (rdL dIu8 x0))), true, [wL 1 eIu8 dIu8 x0, (rdL dIu8 x0).length < 1099511627776, ∀ v ∈ (rdL dIu8 x0), 0 ≤ v ∧ v ≤ 255])
  | _ => none
theorem D_spec_R8Store_ok : OkD Tryz.prog 8 D_spec_R8Store := by
  intro xs r z ob h ho
  unfold D_spec_R8Store at h
  split at h
  · simp only [Option.some.injEq, Prod.mk.injEq] at h
    obtain ⟨rfl, rfl, rfl⟩ := h
    obtain ⟨h0, hb0, hp0, _⟩ := ho
    exact Den.sim (spec_R8Store_den _ hb0 hp0) (simOL_cons (wL_sim h0).1 <| trivial) (noIdL_cons (wL_sim h0).2 <| rfl) rfl
  · cases h
theorem Dz_spec_R8Store_ok : OkD Tryz.prog 8 Dz_spec_R8Store := by
  intro xs r z ob h ho
  unfold Dz_spec_R8Store at h
  split at h
  · simp only [Option.some.injEq, Prod.mk.injEq] at h
    obtain ⟨rfl, rfl, rfl⟩ := h
    obtain ⟨h0, hb0, hp0, _⟩ := ho
    exact Den.sim (spec_R8Store_den _ hb0 hp0) (simOL_cons (wL_sim h0).1 <| trivial) (noIdL_cons (wL_sim h0).2 <| rfl) rfl
  · cases h
end Go.Ab

namespace Go.Ab
open Go Go.Proofs
theorem laws_r8At_DD : DOk Tryz.prog (DD []) := DD_nil _
def laws_r8At (a0 : (List Int)) (a1 : Int) (a2 : Int) : Int :=
  (bif (decide (a2 ≤ 1) || decide ((a0.length : Int) ≤ a1)) then 0 else (IntKind.wrap .i64 (a0.getD ((a1).toNat) default)).tmod a2)
theorem laws_r8At_den (a0 : (List Int)) (a1 : Int) (a2 : Int) (hp0 : 0 ≤ a1) : Den Tryz.prog 9 [encL 1 eIu8 a0, .int .i64 a1, .int .i64 a2] (.int .i64 (laws_r8At a0 a1 a2)) := by
  generalize hR : laws_r8At a0 a1 a2 = r
  unfold laws_r8At at hR
  refine den_intro G_ok Tryz.func9 (by kernel_rfl) rfl Tryz.ntmps9 (by rw [Tryz.results9]) (by simp) rfl ?_
  intro c hL hc hk
  obtain ⟨hL0, hL1, hL2, _⟩ := hL
  have hw0 : a0.length < 9223372036854775808 := Nat.lt_succ_of_le (lens_encL hL0).1
  clear hL0 hL1 hL2
  simp only [pars, Nat.zero_add]
  refine AWP.seq ?_
  refine AWP.regS G_ok laws_r8At_DD hc (by kernel_rfl) (fun K hK => ?_); simp only [ea, gv, sv, reduceCtorEq, reduceIte, Nat.reduceBEq, Nat.reduceAdd, Nat.reduceEqDiff, Nat.reduceLT, Nat.reduceLeDiff, Nat.reduceMul, Nat.reduceSub, BEq.rfl, beq_self_eq_true, Int.reduceToNat]
  (refine hK _ ?_)
  clear hK K
  refine AWP.seq ?_
  refine AWP.seq ?_
  refine AWP.regS G_ok laws_r8At_DD hc (by kernel_rfl) (fun K hK => ?_); simp only [ea, gv, sv, reduceCtorEq, reduceIte, Nat.reduceBEq, Nat.reduceAdd, Nat.reduceEqDiff, Nat.reduceLT, Nat.reduceLeDiff, Nat.reduceMul, Nat.reduceSub, BEq.rfl, beq_self_eq_true, Int.reduceToNat]
  (refine hK _ ?_)
  clear hK K
  refine AWP.cond rfl (fun hb => ?_) (fun hb => ?_)
  · (simp only [hb, cond_true] at hR)
    refine AWP.seq ?_
    refine AWP.regS G_ok laws_r8At_DD hc (by kernel_rfl) (fun K hK => ?_); simp only [ea, gv, sv, reduceCtorEq, reduceIte, Nat.reduceBEq, Nat.reduceAdd, Nat.reduceEqDiff, Nat.reduceLT, Nat.reduceLeDiff, Nat.reduceMul, Nat.reduceSub, BEq.rfl, beq_self_eq_true, Int.reduceToNat]
    (refine hK _ ?_)
    clear hK K
    refine AWP.ret ?_
    subst hR
    (simp only [en, si, ea, gv, sv, hk, reduceCtorEq, reduceIte, Nat.reduceBEq, Nat.reduceAdd, Nat.reduceEqDiff, Nat.reduceLT, Nat.reduceLeDiff, Nat.reduceMul, Nat.reduceSub, BEq.rfl, beq_self_eq_true, Int.reduceToNat]; done)
  · (simp only [hb, cond_false] at hR)
    refine AWP.skip ?_
    refine AWP.seq ?_
    refine AWP.regS G_ok laws_r8At_DD hc (by kernel_rfl) (fun K hK => ?_); simp only [ea, gv, sv, reduceCtorEq, reduceIte, Nat.reduceBEq, Nat.reduceAdd, Nat.reduceEqDiff, Nat.reduceLT, Nat.reduceLeDiff, Nat.reduceMul, Nat.reduceSub, BEq.rfl, beq_self_eq_true, Int.reduceToNat]
    (refine ⟨by ((simp only [ob, ln, bdv, sv] at *; omega)), hK _ ?_⟩)
    clear hK K
    refine AWP.ret ?_
    subst hR
    (simp only [en, si, ea, gv, sv, hk, reduceCtorEq, reduceIte, Nat.reduceBEq, Nat.reduceAdd, Nat.reduceEqDiff, Nat.reduceLT, Nat.reduceLeDiff, Nat.reduceMul, Nat.reduceSub, BEq.rfl, beq_self_eq_true, Int.reduceToNat]; done)
def D_laws_r8At : DF
  | [x0, x1, x2] => some (.int .i64 (laws_r8At (rdL dIu8 x0) (rdI x1) (rdI x2)), false, [wL 1 eIu8 dIu8 x0, wI .i64 x1, wI .i64 x2, 0 ≤ (rdI x1)])
  | _ => none
theorem D_laws_r8At_ok : OkD Tryz.prog 9 D_laws_r8At := by
  intro xs r z ob h ho
  unfold D_laws_r8At at h
  split at h
  · simp only [Option.some.injEq, Prod.mk.injEq] at h
    obtain ⟨rfl, rfl, rfl⟩ := h
    obtain ⟨h0, h1, h2, hp0, _⟩ := ho
    exact Den.sim (laws_r8At_den _ _ _ hp0) (simOL_cons (wL_sim h0).1 <| simOL_cons (wI_sim h1).1 <| simOL_cons (wI_sim h2).1 <| trivial) (noIdL_cons (wL_sim h0).2 <| noIdL_cons (wI_sim h1).2 <| noIdL_cons (wI_sim h2).2 <| rfl) rfl
  · cases h
end Go.Ab

namespace Go.Ab
open Go Go.Proofs
theorem laws_r8Wide_DD : DOk Tryz.prog (DD [(9, dP D_laws_r8At)]) := DD_cons D_laws_r8At_ok.e <| DD_nil _
def laws_r8Wide (a0 : (List Int)) (a1 : Int) (a2 : Int) : Int :=
  (IntKind.wrap .i64 ((IntKind.wrap .i64 (256 * (laws_r8At a0 a1 256))) + (laws_r8At a0 (IntKind.wrap .i64 (a1 + 1)) 256))).tmod a2
theorem laws_r8Wide_den (a0 : (List Int)) (a1 : Int) (a2 : Int) (hp0 : 0 ≤ a1) (hp1 : a1 < 1000000) (hp2 : 1 ≤ a2) : Den Tryz.prog 10 [encL 1 eIu8 a0, .int .i64 a1, .int .i64 a2] (.int .i64 (laws_r8Wide a0 a1 a2)) := by
  generalize hR : laws_r8Wide a0 a1 a2 = r
  unfold laws_r8Wide at hR
  refine den_intro G_ok Tryz.func10 (by kernel_rfl) rfl Tryz.ntmps10 (by rw [Tryz.results10]) (by simp) rfl ?_
  intro c hL hc hk
  obtain ⟨hL0, hL1, hL2, _⟩ := hL
  have hw0 : a0.length < 9223372036854775808 := Nat.lt_succ_of_le (lens_encL hL0).1
  clear hL0 hL1 hL2
  simp only [pars, Nat.zero_add]
  refine AWP.seq ?_
  refine AWP.regS G_ok laws_r8Wide_DD hc (by kernel_rfl) (fun K hK => ?_); simp only [ea, gv, sv, D_laws_r8At, reduceCtorEq, reduceIte, Nat.reduceBEq, Nat.reduceAdd, Nat.reduceEqDiff, Nat.reduceLT, Nat.reduceLeDiff, Nat.reduceMul, Nat.reduceSub, BEq.rfl, beq_self_eq_true, Int.reduceToNat]
  (refine hK _ ?_)
  clear hK K
  refine AWP.seq ?_
  refine AWP.regS G_ok laws_r8Wide_DD hc (by kernel_rfl) (fun K hK => ?_); simp only [ea, gv, sv, D_laws_r8At, reduceCtorEq, reduceIte, Nat.reduceBEq, Nat.reduceAdd, Nat.reduceEqDiff, Nat.reduceLT, Nat.reduceLeDiff, Nat.reduceMul, Nat.reduceSub, BEq.rfl, beq_self_eq_true, Int.reduceToNat]
  (refine ⟨by ((simp only [ob, ln, bdv, sv] at *; omega)), hK _ ?_⟩)
  clear hK K
  refine AWP.ret ?_
  subst hR
  (simp only [en, si, ea, gv, sv, hk, reduceCtorEq, reduceIte, Nat.reduceBEq, Nat.reduceAdd, Nat.reduceEqDiff, Nat.reduceLT, Nat.reduceLeDiff, Nat.reduceMul, Nat.reduceSub, BEq.rfl, beq_self_eq_true, Int.reduceToNat]; done)
def D_laws_r8Wide : DF
  | [x0, x1, x2] => some (.int .i64 (laws_r8Wide (rdL dIu8 x0) (rdI x1) (rdI x2)), false, [wL 1 eIu8 dIu8 x0, wI .i64 x1, wI .i64 x2, 0 ≤ (rdI x1), (rdI x1) < 1000000, 1 ≤ (rdI x2)])
  | _ => none
theorem D_laws_r8Wide_ok : OkD Tryz.prog 10 D_laws_r8Wide := by
  intro xs r z ob h ho
  unfold D_laws_r8Wide at h
  split at h
  · simp only [Option.some.injEq, Prod.mk.injEq] at h
    obtain ⟨rfl, rfl, rfl⟩ := h
    obtain ⟨h0, h1, h2, hp0, hp1, hp2, _⟩ := ho
    exact Den.sim (laws_r8Wide_den _ _ _ hp0 hp1 hp2) (simOL_cons (wL_sim h0).1 <| simOL_cons (wI_sim h1).1 <| simOL_cons (wI_sim h2).1 <| trivial) (noIdL_cons (wL_sim h0).2 <| noIdL_cons (wI_sim h1).2 <| noIdL_cons (wI_sim h2).2 <| rfl) rfl
  · cases h
end Go.Ab

namespace Go.Ab
open Go Go.Proofs
theorem draw_loop (Q : Store → Prop) (hQ : ∀ st s, Q st → (spec_AddEntry st (spec_l29DrawEntry s).1).2 = 0 → Q (spec_AddEntry st (spec_l29DrawEntry s).1).1) (a0 : l00Src) :
    ∀ (k : Nat) (s : Int × l00Src × List Spare × List Entry), s.1.toNat < k → 0 ≤ s.1 → s.1 < 4611686018427387904 → Q { Spares := s.2.2.1, Entries := s.2.2.2 } →
      ∃ t, loopW (spec_l29Draw_b1 a0) k s = .error (.inr t) ∧ Q { Spares := t.2.2.1, Entries := t.2.2.2 } := by
  intro k
  induction k with
  | zero => intro s h; omega
  | succ k ih =>
    intro s hk h0 h1 hq
    unfold loopW
    cases hb : decide (0 < s.1) with
    | false =>
      refine ⟨(s.1, s.2.1, s.2.2.1, s.2.2.2), ?_, hq⟩
      simp only [spec_l29Draw_b1, hb, cond_false]
    | true =>
      have hp : 0 < s.1 := of_decide_eq_true hb
      have hw : IntKind.wrap .i64 (s.1 - 1) = s.1 - 1 := by rw [IntKind.wrap_i64]; omega
      cases hc : ((spec_AddEntry ({ Spares := s.2.2.1, Entries := s.2.2.2 : Store }) ((spec_l29DrawEntry s.2.1).1)).2 == 0) with
      | true =>
        simp only [spec_l29Draw_b1, hb, hc, cond_true, hw]
        refine ih _ ?_ ?_ ?_ ?_
        · show (s.1 - 1).toNat < k; omega
        · show 0 ≤ s.1 - 1; omega
        · show s.1 - 1 < _; omega
        · exact hQ _ _ hq (by simpa using hc)
      | false =>
        simp only [spec_l29Draw_b1, hb, hc, cond_true, cond_false, hw]
        refine ih _ ?_ ?_ ?_ hq
        · show (s.1 - 1).toNat < k; omega
        · show 0 ≤ s.1 - 1; omega
        · show s.1 - 1 < _; omega
theorem draw_inv (Q : Store → Prop) (hQ : ∀ st s, Q st → (spec_AddEntry st (spec_l29DrawEntry s).1).2 = 0 → Q (spec_AddEntry st (spec_l29DrawEntry s).1).1) (a0 : l00Src) (hp : SrcOk 400000 a0)
    (hq : Q (spec_l29Base a0).1) : Q (spec_l29Draw a0).1 := by
  have h1 := hp.base (by omega)
  have h2 := pick_range 10 h1 (by omega)
  have h3 := h2.2 (by omega)
  obtain ⟨t, ht, hqt⟩ := draw_loop Q hQ a0 (((((spec_l00Src_pick ((spec_l29Base a0).2) 10).1)).toNat) + 1) (((spec_l00Src_pick ((spec_l29Base a0).2) 10).1), (spec_l00Src_pick ((spec_l29Base a0).2) 10).2, ((spec_l29Base a0).1).Spares, ((spec_l29Base a0).1).Entries)
    (Nat.lt_succ_self _) h2.1 (by show (spec_l00Src_pick ((spec_l29Base a0).2) 10).1 < _; omega) hq
  unfold spec_l29Draw
  rw [ht]
  exact hqt
theorem r8_from (a0 : List Int) (h : ∀ v ∈ a0, 0 ≤ v ∧ v ≤ 255) : SrcOk 400000 (spec_l00From a0) := ⟨Int.le_refl _, by show (0 : Int) ≤ 400000; omega, h⟩
theorem r8_inv (Q : Store → Prop) (hQ : ∀ st s, Q st → (spec_AddEntry st (spec_l29DrawEntry s).1).2 = 0 → Q (spec_AddEntry st (spec_l29DrawEntry s).1).1) (a0 : List Int) (h : ∀ v ∈ a0, 0 ≤ v ∧ v ≤ 255)
    (hq : Q (spec_l29Base (spec_l00From a0)).1) : Q (spec_R8Store a0) := draw_inv Q hQ _ (r8_from a0 h) hq
theorem r8_bd (a0 : List Int) (h : ∀ v ∈ a0, 0 ≤ v ∧ v ≤ 255) : (spec_R8Store a0).Spares = (spec_l29Base (spec_l00From a0)).1.Spares ∧ (spec_R8Store a0).Entries.length ≤ 48 ∧ ∀ v ∈ (spec_R8Store a0).Entries, v.Item.length ≤ 11 := by
  refine r8_inv (fun st => st.Spares = (spec_l29Base (spec_l00From a0)).1.Spares ∧ st.Entries.length ≤ 48 ∧ ∀ v ∈ st.Entries, v.Item.length ≤ 11) ?_ a0 h ⟨rfl, by simp [spec_l29Base], by simp [spec_l29Base]⟩
  rintro st s ⟨h1, h2, h3⟩ hz
  have hk := spec_AddEntry_keep st _ h2 hz
  refine ⟨hk.1.trans h1, hk.2.1, fun v hv => ?_⟩
  rcases hk.2.2 v hv with h | h
  · exact h3 v h
  · subst h; exact entry_bd s
theorem r8At_range (a : List Int) (h : ∀ v ∈ a, 0 ≤ v ∧ v ≤ 255) (i n : Int) (h0 : 0 ≤ i) (hn : 1 ≤ n) : 0 ≤ laws_r8At a i n ∧ laws_r8At a i n < n := by
  unfold laws_r8At
  cases hb : (decide (n ≤ 1) || decide ((a.length : Int) ≤ i)) with
  | true => simp only [cond_true]; omega
  | false =>
    simp only [Bool.or_eq_false_iff, decide_eq_false_iff_not] at hb
    have hl : i.toNat < a.length := by omega
    have hv : a.getD i.toNat default = a[i.toNat] := by simp [List.getD, hl]
    have hm := h _ (List.getElem_mem hl)
    have hw : IntKind.wrap .i64 (a.getD i.toNat default) = a[i.toNat] := by rw [hv, IntKind.wrap_i64]; omega
    simp only [cond_false, hw]
    exact ⟨Int.tmod_nonneg _ hm.1, Int.tmod_lt_of_pos _ (by omega)⟩
theorem r8Wide_range (a : List Int) (h : ∀ v ∈ a, 0 ≤ v ∧ v ≤ 255) (n : Int) (hn : 1 ≤ n) : 0 ≤ laws_r8Wide a 1 n ∧ laws_r8Wide a 1 n < n := by
  have h1 := r8At_range a h 1 256 (by omega) (by omega)
  have h2 := r8At_range a h (IntKind.wrap .i64 (1 + 1)) 256 (by rw [IntKind.wrap_i64]; omega) (by omega)
  unfold laws_r8Wide
  have hw : IntKind.wrap .i64 ((IntKind.wrap .i64 (256 * (laws_r8At a 1 256))) + (laws_r8At a (IntKind.wrap .i64 (1 + 1)) 256)) = 256 * (laws_r8At a 1 256) + (laws_r8At a (IntKind.wrap .i64 (1 + 1)) 256) := by
    rw [IntKind.wrap_i64 (256 * _), IntKind.wrap_i64 (_ + _)]; omega
  rw [hw]
  exact ⟨Int.tmod_nonneg _ (by omega), Int.tmod_lt_of_pos _ (by omega)⟩
end Go.Ab

namespace Go.Ab
open Go Go.Proofs
def laws_eqEntry (a0 : Entry) (a1 : Entry) : Bool :=
  (bif (a0.Day != a1.Day) then false else (bif (a0.Item != a1.Item) then false else (bif (a0.Amount != a1.Amount) then false else true)))
end Go.Ab

namespace Go.Ab
open Go Go.Proofs
end Go.Ab

namespace Go.Ab
open Go Go.Proofs
theorem impl_Store_spareOf_DD : DOk Tryz.prog (DD []) := DD_nil _
def impl_Store_spareOf_b1 (a0 : Store) (a1 : (List UInt8)) (s1 : Int) : Except (Sum ((Int × Bool)) (Int)) (Int) :=
  (bif (decide (s1 < (a0.Spares.length : Int)) && Op.bytesLess ((a0.Spares.getD ((s1).toNat) default).Name) a1) then .ok (IntKind.wrap .i64 (s1 + 1)) else .error (.inr s1))
def impl_Store_spareOf (a0 : Store) (a1 : (List UInt8)) : (Int × Bool) :=
  (match loopW (impl_Store_spareOf_b1 a0 a1) ((a0.Spares.length - ((0 : Int)).toNat) + 1) 0 with | .error (.inl e) => e | .error (.inr s1) => (s1, (decide (s1 < (a0.Spares.length : Int)) && (((a0.Spares.getD ((s1).toNat) default).Name) == a1))) | .ok _ => default)
theorem impl_Store_spareOf_den (a0 : Store) (a1 : (List UInt8))  : Den Tryz.prog 76 [.agg (eStore a0), .str a1] (.tup [.int .i64 ((impl_Store_spareOf a0 a1).1), .bool ((impl_Store_spareOf a0 a1).2)]) := by
  generalize hR : impl_Store_spareOf a0 a1 = r
  unfold impl_Store_spareOf at hR
  refine den_intro G_ok Tryz.func76 (by kernel_rfl) rfl Tryz.ntmps76 (by rw [Tryz.results76]) (by simp) rfl ?_
  intro c hL hc hk
  obtain ⟨hL0, hL1, _⟩ := hL
  have hw0 : bwStore a0 := Store_lens a0 hL0
  have hw1 : a1.length < 9223372036854775808 := Nat.lt_succ_of_le hL1
  clear hL0 hL1
  simp only [pars, Nat.zero_add]
  refine AWP.seq ?_
  refine AWP.regS G_ok impl_Store_spareOf_DD hc (by kernel_rfl) (fun K hK => ?_); simp only [ea, gv, sv, reduceCtorEq, reduceIte, Nat.reduceBEq, Nat.reduceAdd, Nat.reduceEqDiff, Nat.reduceLT, Nat.reduceLeDiff, Nat.reduceMul, Nat.reduceSub, BEq.rfl, beq_self_eq_true, Int.reduceToNat]
  (refine hK _ ?_)
  clear hK K
  refine AWP.seq ?_
  refine AWP.regS G_ok impl_Store_spareOf_DD hc (by kernel_rfl) (fun K hK => ?_); simp only [ea, gv, sv, reduceCtorEq, reduceIte, Nat.reduceBEq, Nat.reduceAdd, Nat.reduceEqDiff, Nat.reduceLT, Nat.reduceLeDiff, Nat.reduceMul, Nat.reduceSub, BEq.rfl, beq_self_eq_true, Int.reduceToNat]
  (refine hK _ ?_)
  clear hK K
  refine AWP.seq ?_
  refine AWP.block ?_
  generalize hz1 : loopW (impl_Store_spareOf_b1 a0 a1) ((a0.Spares.length - ((0 : Int)).toNat) + 1) 0 = z1 at hR
  refine AWP.whileW (impl_Store_spareOf_b1 a0 a1) (fun s1 => ⟨[(1, .str a1), (2, .ptr 0 0), (6, .int .i64 s1)], [.box [encL 3 eSpare a0.Spares, encL 3 eEntry a0.Entries]]⟩) (fun s1 => 0 ≤ s1 ∧ s1 ≤ a0.Spares.length) (fun s1 => a0.Spares.length - (s1).toNat) ((a0.Spares.length - ((0 : Int)).toNat) + 1) 0 [0] hz1 (by omega) (by ((and_intros <;> first | trivial | omega))) (by (simp only [si, ea, gv, sv, hk, reduceCtorEq, reduceIte, Nat.reduceBEq, Nat.reduceAdd, Nat.reduceEqDiff, Nat.reduceLT, Nat.reduceLeDiff, Nat.reduceMul, Nat.reduceSub, BEq.rfl, beq_self_eq_true, Int.reduceToNat]; trivial)) ?_
  clear hz1
  intro s1 k1 hW1 hm1 hz1
  simp only [impl_Store_spareOf_b1] at hz1
  refine AWP.seq ?_
  refine AWP.seq ?_
  refine AWP.regS G_ok impl_Store_spareOf_DD hc (by kernel_rfl) (fun K hK => ?_); simp only [ea, gv, sv, reduceCtorEq, reduceIte, Nat.reduceBEq, Nat.reduceAdd, Nat.reduceEqDiff, Nat.reduceLT, Nat.reduceLeDiff, Nat.reduceMul, Nat.reduceSub, BEq.rfl, beq_self_eq_true, Int.reduceToNat]
  (refine ⟨by ((simp only [ob, ln, bdv, sv] at *; omega)), hK _ ?_⟩)
  clear hK K
  refine AWP.cond rfl (fun hb => ?_) (fun hb => ?_)
  · (simp only [hb, cond_true] at hz1)
    refine AWP.skip ?_
    refine AWP.block ?_
    refine AWP.regS G_ok impl_Store_spareOf_DD hc (by kernel_rfl) (fun K hK => ?_); simp only [ea, gv, sv, reduceCtorEq, reduceIte, Nat.reduceBEq, Nat.reduceAdd, Nat.reduceEqDiff, Nat.reduceLT, Nat.reduceLeDiff, Nat.reduceMul, Nat.reduceSub, BEq.rfl, beq_self_eq_true, Int.reduceToNat]
    (refine hK _ ?_)
    clear hK K
    exact ⟨_, [0], by ((simp only [ob, ln, bdv, sv] at *; omega)), by ((and_intros <;> (simp only [ob, ln, bdv, sv] at *; omega))), hz1, by (simp only [si, ea, gv, sv, hk, reduceCtorEq, reduceIte, Nat.reduceBEq, Nat.reduceAdd, Nat.reduceEqDiff, Nat.reduceLT, Nat.reduceLeDiff, Nat.reduceMul, Nat.reduceSub, BEq.rfl, beq_self_eq_true, Int.reduceToNat]; trivial)⟩
  · (simp only [hb, cond_false] at hz1)
    refine AWP.exit ?_
    refine exitTo_here ?_
    subst hz1; dsimp only at hR
    refine AWP.seq ?_
    refine AWP.regP mixed G_ok impl_Store_spareOf_DD hc 17 [0, 1, 2, 3, 4, 5, 6, 7, 8, 9, 10, 11, 12, 13, 14, 15] (.alt 16 [] [2, 7, 8, 9, 10, 11, 12, 13, 14, 15] .leaf .stop) (by kernel_rfl) (by kernel_rfl) (by kernel_rfl) (fun K hK => ?_); simp only [rootP, runN, runP, recheck, nthO, ea, gv, sv, reduceCtorEq, reduceIte, Nat.reduceBEq, Nat.reduceAdd, Nat.reduceEqDiff, Nat.reduceLT, Nat.reduceLeDiff, Nat.reduceMul, Nat.reduceSub, BEq.rfl, beq_self_eq_true, Int.reduceToNat]
    repeat' apply And.intro
    all_goals first | refine hK _ ?_ | ((simp only [ob, ln, bdv, sv] at *; omega))
    all_goals clear hK K
    refine AWP.ret ?_
    subst hR
    (simp only [en, si, ea, gv, sv, hk, reduceCtorEq, reduceIte, Nat.reduceBEq, Nat.reduceAdd, Nat.reduceEqDiff, Nat.reduceLT, Nat.reduceLeDiff, Nat.reduceMul, Nat.reduceSub, BEq.rfl, beq_self_eq_true, Int.reduceToNat]; done)
def D_impl_Store_spareOf : DF
  | [x0, x1] => some (.tup [.int .i64 ((impl_Store_spareOf (rdG dStore x0) (rdS x1)).1), .bool ((impl_Store_spareOf (rdG dStore x0) (rdS x1)).2)], false, [wG eStore dStore x0, wS x1])
  | _ => none
theorem D_impl_Store_spareOf_ok : OkD Tryz.prog 76 D_impl_Store_spareOf := by
  intro xs r z ob h ho
  unfold D_impl_Store_spareOf at h
  split at h
  · simp only [Option.some.injEq, Prod.mk.injEq] at h
    obtain ⟨rfl, rfl, rfl⟩ := h
    obtain ⟨h0, h1, _⟩ := ho
    exact Den.sim (impl_Store_spareOf_den _ _ ) (simOL_cons (wG_sim h0).1 <| simOL_cons (wS_sim h1).1 <| trivial) (noIdL_cons (wG_sim h0).2 <| noIdL_cons (wS_sim h1).2 <| rfl) rfl
  · cases h
end Go.Ab

namespace Go.Ab
open Go Go.Proofs
theorem impl_Store_spareOf_spec (a : Store) (k : List UInt8) (hl : a.Spares.length < 9223372036854775808) : ∃ j : Nat, j ≤ a.Spares.length ∧ (∀ q, q < j → Op.bytesLess (a.Spares.getD q default).Name k = true) ∧ (j = a.Spares.length ∨ Op.bytesLess (a.Spares.getD j default).Name k = false) ∧
    impl_Store_spareOf a k = ((j : Int), decide (j < a.Spares.length ∧ (a.Spares.getD j default).Name = k)) := by
  unfold impl_Store_spareOf
  obtain ⟨j, h1, h2, h3, h4, h5⟩ := loopW_upto (ρ := Int × Bool) (b := impl_Store_spareOf_b1 a k) (fun j => Op.bytesLess (a.Spares.getD j default).Name k) a.Spares.length (fun j hj => by
    simp only [impl_Store_spareOf_b1, Int.toNat_natCast]
    have hw : j < a.Spares.length → IntKind.wrap .i64 ((j : Int) + 1) = ((j + 1 : Nat) : Int) := fun h => wrap_nat h hl
    by_cases hj' : j < a.Spares.length
    · rw [hw hj']
      simp [hj']
    · simp [hj']) ((a.Spares.length - ((0 : Int)).toNat) + 1) 0 (by omega) (by simp)
  rw [show ((0 : Nat) : Int) = 0 from rfl] at h5
  refine ⟨j, h2, fun q hq => h3 q (by omega) hq, h4, ?_⟩
  rw [h5]
  simp only [Int.toNat_natCast, Prod.mk.injEq, true_and]
  apply Bool.eq_iff_iff.2
  simp
theorem impl_Store_spareOf_le (a : Store) (k : List UInt8) (hl : a.Spares.length < 9223372036854775808) : 0 ≤ (impl_Store_spareOf a k).1 ∧ (impl_Store_spareOf a k).1 ≤ a.Spares.length := by
  obtain ⟨j, _, _, _, h4⟩ := impl_Store_spareOf_spec a k hl
  rw [h4]
  simp only
  omega
end Go.Ab

namespace Go.Ab
open Go Go.Proofs
theorem impl_isDigit_DD : DOk Tryz.prog (DD []) := DD_nil _
def impl_isDigit (a0 : Int) : Bool :=
  (decide (48 ≤ a0) && decide (a0 ≤ 57))
theorem impl_isDigit_den (a0 : Int)  : Den Tryz.prog 113 [.int .u8 a0] (.bool (impl_isDigit a0)) := by
  generalize hR : impl_isDigit a0 = r
  unfold impl_isDigit at hR
  refine den_intro G_ok Tryz.func113 (by kernel_rfl) rfl Tryz.ntmps113 (by rw [Tryz.results113]) (by simp) rfl ?_
  intro c hL hc hk
  clear hL
  simp only [pars, Nat.zero_add]
  refine AWP.seq ?_
  refine AWP.regS G_ok impl_isDigit_DD hc (by kernel_rfl) (fun K hK => ?_); simp only [ea, gv, sv, reduceCtorEq, reduceIte, Nat.reduceBEq, Nat.reduceAdd, Nat.reduceEqDiff, Nat.reduceLT, Nat.reduceLeDiff, Nat.reduceMul, Nat.reduceSub, BEq.rfl, beq_self_eq_true, Int.reduceToNat]
  (refine hK _ ?_)
  clear hK K
  refine AWP.seq ?_
  refine AWP.regS G_ok impl_isDigit_DD hc (by kernel_rfl) (fun K hK => ?_); simp only [ea, gv, sv, reduceCtorEq, reduceIte, Nat.reduceBEq, Nat.reduceAdd, Nat.reduceEqDiff, Nat.reduceLT, Nat.reduceLeDiff, Nat.reduceMul, Nat.reduceSub, BEq.rfl, beq_self_eq_true, Int.reduceToNat]
  (refine hK _ ?_)
  clear hK K
  refine AWP.ret ?_
  subst hR
  (simp only [en, si, ea, gv, sv, hk, reduceCtorEq, reduceIte, Nat.reduceBEq, Nat.reduceAdd, Nat.reduceEqDiff, Nat.reduceLT, Nat.reduceLeDiff, Nat.reduceMul, Nat.reduceSub, BEq.rfl, beq_self_eq_true, Int.reduceToNat]; done)
def D_impl_isDigit : DF
  | [x0] => some (.bool (impl_isDigit (rdI x0)), false, [wI .u8 x0])
  | _ => none
theorem D_impl_isDigit_ok : OkD Tryz.prog 113 D_impl_isDigit := by
  intro xs r z ob h ho
  unfold D_impl_isDigit at h
  split at h
  · simp only [Option.some.injEq, Prod.mk.injEq] at h
    obtain ⟨rfl, rfl, rfl⟩ := h
    obtain ⟨h0, _⟩ := ho
    exact Den.sim (impl_isDigit_den _ ) (simOL_cons (wI_sim h0).1 <| trivial) (noIdL_cons (wI_sim h0).2 <| rfl) rfl
  · cases h
end Go.Ab

namespace Go.Ab
open Go Go.Proofs
theorem impl_few_DD : DOk Tryz.prog (DD []) := DD_nil _
def impl_few (a0 : Int) (a1 : Int) : Bool :=
  decide (a0 ≤ a1)
theorem impl_few_den (a0 : Int) (a1 : Int)  : Den Tryz.prog 77 [.int .i64 a0, .int .i64 a1] (.bool (impl_few a0 a1)) := by
  generalize hR : impl_few a0 a1 = r
  unfold impl_few at hR
  refine den_intro G_ok Tryz.func77 (by kernel_rfl) rfl Tryz.ntmps77 (by rw [Tryz.results77]) (by simp) rfl ?_
  intro c hL hc hk
  clear hL
  simp only [pars, Nat.zero_add]
  refine AWP.seq ?_
  refine AWP.regS G_ok impl_few_DD hc (by kernel_rfl) (fun K hK => ?_); simp only [ea, gv, sv, reduceCtorEq, reduceIte, Nat.reduceBEq, Nat.reduceAdd, Nat.reduceEqDiff, Nat.reduceLT, Nat.reduceLeDiff, Nat.reduceMul, Nat.reduceSub, BEq.rfl, beq_self_eq_true, Int.reduceToNat]
  (refine hK _ ?_)
  clear hK K
  refine AWP.seq ?_
  refine AWP.regS G_ok impl_few_DD hc (by kernel_rfl) (fun K hK => ?_); simp only [ea, gv, sv, reduceCtorEq, reduceIte, Nat.reduceBEq, Nat.reduceAdd, Nat.reduceEqDiff, Nat.reduceLT, Nat.reduceLeDiff, Nat.reduceMul, Nat.reduceSub, BEq.rfl, beq_self_eq_true, Int.reduceToNat]
  (refine hK _ ?_)
  clear hK K
  refine AWP.ret ?_
  subst hR
  (simp only [en, si, ea, gv, sv, hk, reduceCtorEq, reduceIte, Nat.reduceBEq, Nat.reduceAdd, Nat.reduceEqDiff, Nat.reduceLT, Nat.reduceLeDiff, Nat.reduceMul, Nat.reduceSub, BEq.rfl, beq_self_eq_true, Int.reduceToNat]; done)
def D_impl_few : DF
  | [x0, x1] => some (.bool (impl_few (rdI x0) (rdI x1)), false, [wI .i64 x0, wI .i64 x1])
  | _ => none
theorem D_impl_few_ok : OkD Tryz.prog 77 D_impl_few := by
  intro xs r z ob h ho
  unfold D_impl_few at h
  split at h
  · simp only [Option.some.injEq, Prod.mk.injEq] at h
    obtain ⟨rfl, rfl, rfl⟩ := h
    obtain ⟨h0, h1, _⟩ := ho
    exact Den.sim (impl_few_den _ _ ) (simOL_cons (wI_sim h0).1 <| simOL_cons (wI_sim h1).1 <| trivial) (noIdL_cons (wI_sim h0).2 <| noIdL_cons (wI_sim h1).2 <| rfl) rfl
  · cases h
end Go.Ab

namespace Go.Ab
open Go Go.Proofs
theorem impl_IsName_DD : DOk Tryz.prog (DD [(113, dP D_impl_isDigit), (77, dP D_impl_few)]) := DD_cons D_impl_isDigit_ok.e <| DD_cons D_impl_few_ok.e <| DD_nil _
def impl_IsName_b1 (a0 : (List UInt8)) (i1 : Nat) (s1 : Unit) : Except (Bool) (Unit) :=
  (bif ((!(decide (97 ≤ ((a0.getD i1 0).toNat : Int)) && decide (((a0.getD i1 0).toNat : Int) ≤ 122))) && (((i1 : Int) == 0) || (!(impl_isDigit ((a0.getD i1 0).toNat : Int))))) then .error false else .ok ())
def impl_IsName (a0 : (List UInt8)) : Bool :=
  (match loopR (impl_IsName_b1 a0) (a0.length - 0) 0 () with | .error e => e | .ok s1 => ((a0 != []) && (impl_few (a0.length : Int) 10)))
theorem impl_IsName_den (a0 : (List UInt8))  : Den Tryz.prog 67 [.str a0] (.bool (impl_IsName a0)) := by
  generalize hR : impl_IsName a0 = r
  unfold impl_IsName at hR
  refine den_intro G_ok Tryz.func67 (by kernel_rfl) rfl Tryz.ntmps67 (by rw [Tryz.results67]) (by simp) rfl ?_
  intro c hL hc hk
  obtain ⟨hL0, _⟩ := hL
  have hw0 : a0.length < 9223372036854775808 := Nat.lt_succ_of_le hL0
  clear hL0
  simp only [pars, Nat.zero_add]
  refine AWP.seq ?_
  refine AWP.regS G_ok impl_IsName_DD hc (by kernel_rfl) (fun K hK => ?_); simp only [ea, gv, sv, D_impl_isDigit, D_impl_few, reduceCtorEq, reduceIte, Nat.reduceBEq, Nat.reduceAdd, Nat.reduceEqDiff, Nat.reduceLT, Nat.reduceLeDiff, Nat.reduceMul, Nat.reduceSub, BEq.rfl, beq_self_eq_true, Int.reduceToNat]
  (refine hK _ ?_)
  clear hK K
  refine AWP.seq ?_
  refine AWP.seq ?_
  refine AWP.regS G_ok impl_IsName_DD hc (by kernel_rfl) (fun K hK => ?_); simp only [ea, gv, sv, D_impl_isDigit, D_impl_few, reduceCtorEq, reduceIte, Nat.reduceBEq, Nat.reduceAdd, Nat.reduceEqDiff, Nat.reduceLT, Nat.reduceLeDiff, Nat.reduceMul, Nat.reduceSub, BEq.rfl, beq_self_eq_true, Int.reduceToNat]
  (refine hK _ ?_)
  clear hK K
  refine AWP.block ?_
  generalize hz1 : loopR (impl_IsName_b1 a0) (a0.length - 0) 0 () = z1 at hR
  refine AWP.range (impl_IsName_b1 a0) (fun i1 s1 => ⟨[(0, .str a0), (3, .int .i64 (i1 : Int))], []⟩) (fun i1 s1 => True) (a0.length) 0 () [] hz1 (by (omega)) (by (trivial)) (by (simp only [si, ea, gv, sv, hk, reduceCtorEq, reduceIte, Nat.reduceBEq, Nat.reduceAdd, Nat.reduceEqDiff, Nat.reduceLT, Nat.reduceLeDiff, Nat.reduceMul, Nat.reduceSub, BEq.rfl, beq_self_eq_true, Int.reduceToNat]; trivial)) ?_
  clear hz1
  intro i1 s1 hi1 hW1 hz1
  refine AWP.seq ?_
  refine AWP.seq ?_
  refine AWP.regS G_ok impl_IsName_DD hc (by kernel_rfl) (fun K hK => ?_); simp only [ea, gv, sv, D_impl_isDigit, D_impl_few, reduceCtorEq, reduceIte, Nat.reduceBEq, Nat.reduceAdd, Nat.reduceEqDiff, Nat.reduceLT, Nat.reduceLeDiff, Nat.reduceMul, Nat.reduceSub, BEq.rfl, beq_self_eq_true, Int.reduceToNat]
  (refine hK _ ?_)
  clear hK K
  refine AWP.cond rfl (fun hb => ?_) (fun hb => ?_)
  · have hlt1 : i1 < a0.length := by ((simp only [ob, ln, bdv, sv] at *; omega))
    rw [loopR_lt hlt1] at hz1; simp only [impl_IsName_b1] at hz1
    refine AWP.skip ?_
    refine AWP.seq ?_
    refine AWP.block ?_
    refine AWP.seq ?_
    refine AWP.regS G_ok impl_IsName_DD hc (by kernel_rfl) (fun K hK => ?_); simp only [ea, gv, sv, D_impl_isDigit, D_impl_few, reduceCtorEq, reduceIte, Nat.reduceBEq, Nat.reduceAdd, Nat.reduceEqDiff, Nat.reduceLT, Nat.reduceLeDiff, Nat.reduceMul, Nat.reduceSub, BEq.rfl, beq_self_eq_true, Int.reduceToNat]
    (refine ⟨by (omega), hK _ ?_⟩)
    clear hK K
    refine AWP.seq ?_
    refine AWP.regS G_ok impl_IsName_DD hc (by kernel_rfl) (fun K hK => ?_); simp only [ea, gv, sv, D_impl_isDigit, D_impl_few, reduceCtorEq, reduceIte, Nat.reduceBEq, Nat.reduceAdd, Nat.reduceEqDiff, Nat.reduceLT, Nat.reduceLeDiff, Nat.reduceMul, Nat.reduceSub, BEq.rfl, beq_self_eq_true, Int.reduceToNat]
    (refine ⟨by (omega), hK _ ?_⟩)
    clear hK K
    refine AWP.cond rfl (fun hb => ?_) (fun hb => ?_)
    · (simp only [hb, cond_true] at hz1)
      refine AWP.seq ?_
      refine AWP.regS G_ok impl_IsName_DD hc (by kernel_rfl) (fun K hK => ?_); simp only [ea, gv, sv, D_impl_isDigit, D_impl_few, reduceCtorEq, reduceIte, Nat.reduceBEq, Nat.reduceAdd, Nat.reduceEqDiff, Nat.reduceLT, Nat.reduceLeDiff, Nat.reduceMul, Nat.reduceSub, BEq.rfl, beq_self_eq_true, Int.reduceToNat]
      (refine hK _ ?_)
      clear hK K
      refine AWP.ret ?_
      subst hz1
      dsimp only at hR
      subst hR
      (simp only [en, si, ea, gv, sv, hk, reduceCtorEq, reduceIte, Nat.reduceBEq, Nat.reduceAdd, Nat.reduceEqDiff, Nat.reduceLT, Nat.reduceLeDiff, Nat.reduceMul, Nat.reduceSub, BEq.rfl, beq_self_eq_true, Int.reduceToNat]; done)
    · (simp only [hb, cond_false] at hz1)
      refine AWP.skip ?_
      refine AWP.regS G_ok impl_IsName_DD hc (by kernel_rfl) (fun K hK => ?_); simp only [ea, gv, sv, D_impl_isDigit, D_impl_few, reduceCtorEq, reduceIte, Nat.reduceBEq, Nat.reduceAdd, Nat.reduceEqDiff, Nat.reduceLT, Nat.reduceLeDiff, Nat.reduceMul, Nat.reduceSub, BEq.rfl, beq_self_eq_true, Int.reduceToNat]
      (refine hK _ ?_)
      clear hK K
      exact ⟨_, [], hlt1, by (trivial), hz1, by (simp only [si, ea, gv, sv, hk, reduceCtorEq, reduceIte, Nat.reduceBEq, Nat.reduceAdd, Nat.reduceEqDiff, Nat.reduceLT, Nat.reduceLeDiff, Nat.reduceMul, Nat.reduceSub, BEq.rfl, beq_self_eq_true, Int.reduceToNat]; (and_intros <;> first | trivial | (rw [IntKind.wrap_i64]; omega)))⟩
  · obtain rfl : i1 = a0.length := by ((simp only [ob, ln, bdv, sv] at *; omega))
    rw [loopR_ge (Nat.le_refl _)] at hz1; subst hz1; dsimp only at hR
    refine AWP.exit ?_; refine exitTo_here ?_
    refine AWP.seq ?_
    refine AWP.regS G_ok impl_IsName_DD hc (by kernel_rfl) (fun K hK => ?_); simp only [ea, gv, sv, D_impl_isDigit, D_impl_few, reduceCtorEq, reduceIte, Nat.reduceBEq, Nat.reduceAdd, Nat.reduceEqDiff, Nat.reduceLT, Nat.reduceLeDiff, Nat.reduceMul, Nat.reduceSub, BEq.rfl, beq_self_eq_true, Int.reduceToNat]
    (refine hK _ ?_)
    clear hK K
    refine AWP.ret ?_
    subst hR
    (simp only [en, si, ea, gv, sv, hk, reduceCtorEq, reduceIte, Nat.reduceBEq, Nat.reduceAdd, Nat.reduceEqDiff, Nat.reduceLT, Nat.reduceLeDiff, Nat.reduceMul, Nat.reduceSub, BEq.rfl, beq_self_eq_true, Int.reduceToNat]; done)
def D_impl_IsName : DF
  | [x0] => some (.bool (impl_IsName (rdS x0)), false, [wS x0])
  | _ => none
theorem D_impl_IsName_ok : OkD Tryz.prog 67 D_impl_IsName := by
  intro xs r z ob h ho
  unfold D_impl_IsName at h
  split at h
  · simp only [Option.some.injEq, Prod.mk.injEq] at h
    obtain ⟨rfl, rfl, rfl⟩ := h
    obtain ⟨h0, _⟩ := ho
    exact Den.sim (impl_IsName_den _ ) (simOL_cons (wS_sim h0).1 <| trivial) (noIdL_cons (wS_sim h0).2 <| rfl) rfl
  · cases h
end Go.Ab
