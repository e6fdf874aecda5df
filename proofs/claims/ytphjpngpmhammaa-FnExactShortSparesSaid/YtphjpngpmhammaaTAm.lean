/- A part of a proof: walks of functions and lemmas of our own. No conditions. -/
import Derived.Test.YtphjpngpmhammaaTAl
import Derived.Test.YtphjpngpmhammaaTAh
import Derived.Test.YtphjpngpmhammaaTAj
import Derived.Test.YtphjpngpmhammaaTAk
import Derived.Test.YtphjpngpmhammaaTAi
import Derived.Test.YtphjpngpmhammaaRows
set_option linter.unusedSectionVars false
set_option linter.unusedVariables false
set_option linter.unusedSimpArgs false
namespace Go.Ab
open Go Go.Proofs
def mkString (v : Int) : (List UInt8) := laws_markText v
theorem laws_markStringS_len (a : List (List UInt8)) (k : Int) : (laws_markStringS a k).2.length = a.length := by
  unfold laws_markStringS
  obtain ⟨t, h1, h2⟩ := loopR_total (b := laws_markStringS_b1 a k) (fun _ s => s.2.length = a.length) (k := a.length - 0) (i := 0) (s := (k, a)) rfl (by
    intro j u _ _ h
    exact ⟨_, rfl, by simpa using h⟩)
  rw [h1]
  exact h2
theorem laws_markStringS_sub (a : List (List UInt8)) (k : Int) : subL (laws_markStringS a k).2 0 a.length = (laws_markStringS a k).2 := by
  rw [← laws_markStringS_len a k]; exact subL_all _
theorem laws_markStringS_eq (a : List (List UInt8)) (k : Int) (h0 : 0 ≤ k) (h1 : k + 1 * a.length < 4611686018427387904) : laws_markStringS a k = (k + 1 * a.length, (List.range a.length).map (fun j : Nat => mkString (k + 1 * j))) := by
  unfold laws_markStringS
  obtain ⟨t, q1, q2, q3, q4⟩ := loopR_total (b := laws_markStringS_b1 a k) (fun i s => s.1 = k + 1 * i ∧ s.2.length = a.length ∧ ∀ j, j < i → s.2.getD j default = mkString (k + 1 * j)) (k := a.length - 0) (i := 0) (s := (k, a)) ⟨by simp, rfl, by intro j hj; omega⟩ (by
    intro j u _ hj ⟨h2, h3, h4⟩
    have w1 : ∀ m : Int, 0 ≤ m → m < 4611686018427387904 → IntKind.wrap .i64 (m + 1) = m + 1 := by intro m _ _; rw [IntKind.wrap_i64]; omega
    have w0 : ∀ m : Int, 0 ≤ m → m < 4611686018427387904 → IntKind.wrap .i64 m = m := by intro m _ _; rw [IntKind.wrap_i64]; omega
    refine ⟨_, rfl, ?_, ?_, ?_⟩
    · simp only [h2, IntKind.wrap_i64]; omega
    · simpa using h3
    · intro q hq
      simp only
      rw [lgetD_set]
      by_cases h : q = j
      · subst h
        rw [if_pos ⟨rfl, by omega⟩, h2]
        simp only [mkString]
        all_goals (try rw [(List UInt8).mk.injEq])
        all_goals (and_intros <;> first | rfl | trivial | (simp only [IntKind.wrap_i64]; omega) | (congr 1; (simp only [IntKind.wrap_i64]; omega)))
      · rw [if_neg (fun hh => h hh.1)]
        exact h4 q (by omega))
  rw [q1]
  simp only [Nat.zero_add, Nat.sub_zero] at q2 q4
  simp only [q2]
  congr 1
  apply getD_ext
  · simpa using q3
  · intro i hi
    rw [q4 i (by omega)]
    simp [List.getD_eq_getElem?_getD]
    rw [List.getElem?_range (by omega)]
    rfl
theorem laws_markStringS_k (a : List (List UInt8)) (k : Int) (h0 : 0 ≤ k) (h1 : k ≤ 1152921504606846976) (hl : a.length < 1099511627776) : (laws_markStringS a k).1 = k + 1 * a.length := by
  rw [laws_markStringS_eq a k h0 (by omega)]
theorem laws_heldStringS_mark (a : List (List UInt8)) (k : Int) (h0 : 0 ≤ k) (hk : k ≤ 1152921504606846976) (h1 : a.length < 1099511627776) : laws_heldStringS (laws_markStringS a k).2 k = (laws_markStringS a k).1 ∧ ¬ (laws_markStringS a k).1 < 0 := by
  rw [laws_markStringS_eq a k h0 (by omega)]
  refine ⟨?_, by simp only; omega⟩
  simp only
  unfold laws_heldStringS
  obtain ⟨t, q1, q2⟩ := loopR_total (b := laws_heldStringS_b1 ((List.range a.length).map (fun j : Nat => mkString (k + 1 * j))) k) (fun i s => s = k + 1 * (i : Int)) (k := ((List.range a.length).map (fun j : Nat => mkString (k + 1 * j))).length - 0) (i := 0) (s := k) (by simp) (by
    intro j u _ hj h2
    have hj2 : j < a.length := by simpa using hj
    have hg : ((List.range a.length).map (fun j : Nat => mkString (k + 1 * j))).getD j default = mkString (k + 1 * j) := by
      simp [List.getD_eq_getElem?_getD, hj2]
    subst h2
    refine ⟨k + 1 * ((j + 1 : Nat) : Int), ?_, rfl⟩
    have e1 : ∀ m : Int, 0 ≤ m → m < 4611686018427387904 → (m + 9223372036854775808) % 18446744073709551616 - 9223372036854775808 = m := by intro m _ _; omega
    simp only [laws_heldStringS_b1]
    simp only [hg]
    simp only [mkString, IntKind.wrap_i64]
    (repeat rw [e1 _ (by omega) (by omega)])
    simp only [Int.add_assoc, Int.reduceAdd, bne_self_eq_false, cond_false, Except.ok.injEq]
    omega)
  rw [q1]
  simp only [q2]
  simp
end Go.Ab

namespace Go.Ab
open Go Go.Proofs
theorem laws_eqStringS_DD : DOk Try.prog (DD []) := DD_nil _
def laws_eqStringS_b1 (a0 : (List (List UInt8))) (a1 : (List (List UInt8))) (i1 : Nat) (s1 : Unit) : Except (Bool) (Unit) :=
  (bif ((a0.getD i1 default) != (a1.getD i1 default)) then .error false else .ok ())

def laws_eqStringS (a0 : (List (List UInt8))) (a1 : (List (List UInt8))) : Bool :=
  (bif ((a0.length : Int) != (a1.length : Int)) then false else (match loopR (laws_eqStringS_b1 a0 a1) (a0.length - 0) 0 () with | .error e => e | .ok s1 => true))

theorem laws_eqStringS_den (a0 : (List (List UInt8))) (a1 : (List (List UInt8)))  : Den Try.prog 41 [encL 1 eS a0, encL 1 eS a1] (.bool (laws_eqStringS a0 a1)) := by
  generalize hR : laws_eqStringS a0 a1 = r
  unfold laws_eqStringS at hR
  refine den_intro G_ok Try.func41 (by kernel_rfl) rfl Try.ntmps41 (by rw [Try.results41]) (by simp) rfl ?_
  intro c hL hc hk
  obtain ⟨hL0, hL1, _⟩ := hL
  have hw0 : a0.length < 9223372036854775808 := Nat.lt_succ_of_le (lens_encL hL0).1
  have hw1 : ∀ v ∈ a0, bwS v := fun v hv => S_lens v ((lens_encL hL0).2 v hv)
  have hw2 : a1.length < 9223372036854775808 := Nat.lt_succ_of_le (lens_encL hL1).1
  have hw3 : ∀ v ∈ a1, bwS v := fun v hv => S_lens v ((lens_encL hL1).2 v hv)
  clear hL0 hL1
  simp only [pars, Nat.zero_add]
  refine AWP.seq ?_
  refine AWP.regS G_ok laws_eqStringS_DD hc (by kernel_rfl) (fun K hK => ?_); simp only [ea, gv, sv, reduceCtorEq, reduceIte, Nat.reduceBEq, Nat.reduceAdd, Nat.reduceEqDiff, Nat.reduceLT, Nat.reduceLeDiff, Nat.reduceMul, Nat.reduceSub, BEq.rfl, beq_self_eq_true, Int.reduceToNat]
  (refine hK _ ?_)
  clear hK K
  refine AWP.seq ?_
  refine AWP.seq ?_
  refine AWP.regS G_ok laws_eqStringS_DD hc (by kernel_rfl) (fun K hK => ?_); simp only [ea, gv, sv, reduceCtorEq, reduceIte, Nat.reduceBEq, Nat.reduceAdd, Nat.reduceEqDiff, Nat.reduceLT, Nat.reduceLeDiff, Nat.reduceMul, Nat.reduceSub, BEq.rfl, beq_self_eq_true, Int.reduceToNat]
  (refine hK _ ?_)
  clear hK K
  refine AWP.cond rfl (fun hb => ?_) (fun hb => ?_)
  · (simp only [hb, cond_true] at hR)
    refine AWP.seq ?_
    refine AWP.regS G_ok laws_eqStringS_DD hc (by kernel_rfl) (fun K hK => ?_); simp only [ea, gv, sv, reduceCtorEq, reduceIte, Nat.reduceBEq, Nat.reduceAdd, Nat.reduceEqDiff, Nat.reduceLT, Nat.reduceLeDiff, Nat.reduceMul, Nat.reduceSub, BEq.rfl, beq_self_eq_true, Int.reduceToNat]
    (refine hK _ ?_)
    clear hK K
    refine AWP.ret ?_
    subst hR
    (simp only [en, si, ea, gv, sv, hk, reduceCtorEq, reduceIte, Nat.reduceBEq, Nat.reduceAdd, Nat.reduceEqDiff, Nat.reduceLT, Nat.reduceLeDiff, Nat.reduceMul, Nat.reduceSub, BEq.rfl, beq_self_eq_true, Int.reduceToNat]; done)
  · (simp only [hb, cond_false] at hR)
    refine AWP.skip ?_
    refine AWP.seq ?_
    refine AWP.seq ?_
    refine AWP.regS G_ok laws_eqStringS_DD hc (by kernel_rfl) (fun K hK => ?_); simp only [ea, gv, sv, reduceCtorEq, reduceIte, Nat.reduceBEq, Nat.reduceAdd, Nat.reduceEqDiff, Nat.reduceLT, Nat.reduceLeDiff, Nat.reduceMul, Nat.reduceSub, BEq.rfl, beq_self_eq_true, Int.reduceToNat]
    (refine hK _ ?_)
    clear hK K
    refine AWP.block ?_
    generalize hz1 : loopR (laws_eqStringS_b1 a0 a1) (a0.length - 0) 0 () = z1 at hR
    refine AWP.range (laws_eqStringS_b1 a0 a1) (fun i1 s1 => ⟨[(0, encL 1 eS a0), (1, encL 1 eS a1), (5, .int .i64 (i1 : Int))], []⟩) (fun i1 s1 => True) (a0.length) 0 () [] hz1 (by (omega)) (by (trivial)) (by (simp only [si, ea, gv, sv, hk, reduceCtorEq, reduceIte, Nat.reduceBEq, Nat.reduceAdd, Nat.reduceEqDiff, Nat.reduceLT, Nat.reduceLeDiff, Nat.reduceMul, Nat.reduceSub, BEq.rfl, beq_self_eq_true, Int.reduceToNat]; trivial)) ?_
    clear hz1
    intro i1 s1 hi1 hW1 hz1
    refine AWP.seq ?_
    refine AWP.seq ?_
    refine AWP.regS G_ok laws_eqStringS_DD hc (by kernel_rfl) (fun K hK => ?_); simp only [ea, gv, sv, reduceCtorEq, reduceIte, Nat.reduceBEq, Nat.reduceAdd, Nat.reduceEqDiff, Nat.reduceLT, Nat.reduceLeDiff, Nat.reduceMul, Nat.reduceSub, BEq.rfl, beq_self_eq_true, Int.reduceToNat]
    (refine hK _ ?_)
    clear hK K
    refine AWP.cond rfl (fun hb => ?_) (fun hb => ?_)
    · have hlt1 : i1 < a0.length := by ((simp only [ob, ln, bdv, sv] at *; omega))
      rw [loopR_lt hlt1] at hz1; simp only [laws_eqStringS_b1] at hz1
      refine AWP.skip ?_
      refine AWP.seq ?_
      refine AWP.block ?_
      refine AWP.seq ?_
      refine AWP.regD mixed G_ok laws_eqStringS_DD hc 8 (by kernel_rfl) (by kernel_rfl) (fun K hK => ?_); simp only [ea, gv, sv, reduceCtorEq, reduceIte, Nat.reduceBEq, Nat.reduceAdd, Nat.reduceEqDiff, Nat.reduceLT, Nat.reduceLeDiff, Nat.reduceMul, Nat.reduceSub, BEq.rfl, beq_self_eq_true, Int.reduceToNat]
      (refine ⟨by ((simp only [ob, ln, bdv, sv] at *; omega)), hK _ ?_⟩)
      clear hK K
      refine AWP.cond rfl (fun hb => ?_) (fun hb => ?_)
      · (simp only [hb, cond_true] at hz1)
        refine AWP.seq ?_
        refine AWP.regS G_ok laws_eqStringS_DD hc (by kernel_rfl) (fun K hK => ?_); simp only [ea, gv, sv, reduceCtorEq, reduceIte, Nat.reduceBEq, Nat.reduceAdd, Nat.reduceEqDiff, Nat.reduceLT, Nat.reduceLeDiff, Nat.reduceMul, Nat.reduceSub, BEq.rfl, beq_self_eq_true, Int.reduceToNat]
        (refine hK _ ?_)
        clear hK K
        refine AWP.ret ?_
        subst hz1
        dsimp only at hR
        subst hR
        (simp only [en, si, ea, gv, sv, hk, reduceCtorEq, reduceIte, Nat.reduceBEq, Nat.reduceAdd, Nat.reduceEqDiff, Nat.reduceLT, Nat.reduceLeDiff, Nat.reduceMul, Nat.reduceSub, BEq.rfl, beq_self_eq_true, Int.reduceToNat]; done)
      · (simp only [hb, cond_false] at hz1)
        refine AWP.skip ?_
        refine AWP.regS G_ok laws_eqStringS_DD hc (by kernel_rfl) (fun K hK => ?_); simp only [ea, gv, sv, reduceCtorEq, reduceIte, Nat.reduceBEq, Nat.reduceAdd, Nat.reduceEqDiff, Nat.reduceLT, Nat.reduceLeDiff, Nat.reduceMul, Nat.reduceSub, BEq.rfl, beq_self_eq_true, Int.reduceToNat]
        (refine hK _ ?_)
        clear hK K
        exact ⟨_, [], hlt1, by (trivial), hz1, by (simp only [si, ea, gv, sv, hk, reduceCtorEq, reduceIte, Nat.reduceBEq, Nat.reduceAdd, Nat.reduceEqDiff, Nat.reduceLT, Nat.reduceLeDiff, Nat.reduceMul, Nat.reduceSub, BEq.rfl, beq_self_eq_true, Int.reduceToNat]; (and_intros <;> first | trivial | (rw [IntKind.wrap_i64]; omega)))⟩
    · obtain rfl : i1 = a0.length := by ((simp only [ob, ln, bdv, sv] at *; omega))
      rw [loopR_ge (Nat.le_refl _)] at hz1; subst hz1; dsimp only at hR
      refine AWP.exit ?_; refine exitTo_here ?_
      refine AWP.seq ?_
      refine AWP.regS G_ok laws_eqStringS_DD hc (by kernel_rfl) (fun K hK => ?_); simp only [ea, gv, sv, reduceCtorEq, reduceIte, Nat.reduceBEq, Nat.reduceAdd, Nat.reduceEqDiff, Nat.reduceLT, Nat.reduceLeDiff, Nat.reduceMul, Nat.reduceSub, BEq.rfl, beq_self_eq_true, Int.reduceToNat]
      (refine hK _ ?_)
      clear hK K
      refine AWP.ret ?_
      subst hR
      (simp only [en, si, ea, gv, sv, hk, reduceCtorEq, reduceIte, Nat.reduceBEq, Nat.reduceAdd, Nat.reduceEqDiff, Nat.reduceLT, Nat.reduceLeDiff, Nat.reduceMul, Nat.reduceSub, BEq.rfl, beq_self_eq_true, Int.reduceToNat]; done)

def D_laws_eqStringS : DF
  | [x0, x1] => some (.bool (laws_eqStringS (rdL dS x0) (rdL dS x1)), false, [wL 1 eS dS x0, wL 1 eS dS x1])
  | _ => none
theorem D_laws_eqStringS_ok : OkD Try.prog 41 D_laws_eqStringS := by
  intro xs r z ob h ho
  unfold D_laws_eqStringS at h
  split at h
  · simp only [Option.some.injEq, Prod.mk.injEq] at h
    obtain ⟨rfl, rfl, rfl⟩ := h
    obtain ⟨h0, h1, _⟩ := ho
    exact Den.sim (laws_eqStringS_den _ _ ) (simOL_cons (wL_sim h0).1 <| simOL_cons (wL_sim h1).1 <| trivial) (noIdL_cons (wL_sim h0).2 <| noIdL_cons (wL_sim h1).2 <| rfl) rfl
  · cases h
end Go.Ab

namespace Go.Ab
open Go Go.Proofs
theorem laws_eqStringS_dec (a b : List (List UInt8)) : laws_eqStringS a b = decide (a = b) := by
  unfold laws_eqStringS
  by_cases hl : a.length = b.length
  · have h1 : ((a.length : Int) != (b.length : Int)) = false := by simp [hl]
    rw [h1, cond_false, loopR_any (b := laws_eqStringS_b1 a b) (fun j => !decide (a.getD j default = b.getD j default)) false (fun j u _ _ => by
      simp only [laws_eqStringS_b1]
      by_cases h : a.getD j default = b.getD j default
      · rw [h]; simp
      · have hb : (a.getD j default != b.getD j default) = true := by simpa using h
        rw [hb, decide_eq_false h]; rfl)]
    simp only [Nat.sub_zero, Nat.zero_add]
    rw [any_ne a b hl]
    by_cases h : a = b <;> simp [h]
  · have h1 : ((a.length : Int) != (b.length : Int)) = true := by simp; omega
    have h2 : ¬ a = b := fun e => hl (by rw [e])
    rw [h1, cond_true, decide_eq_false h2]
end Go.Ab

namespace Go.Ab
open Go Go.Proofs
theorem impl_ShortSpares_DD : DOk Try.prog (DD [(102, dP D_impl_isDay), (18, dP D_impl_ValidStore), (88, dP D_impl_Store_fromDay)]) := DD_cons D_impl_isDay_ok.e <| DD_cons D_impl_ValidStore_ok.e <| DD_cons D_impl_Store_fromDay_ok.e <| DD_nil _
theorem impl_ShortSpares_DZ : DOk Try.prog (DD [(102, dP D_impl_isDay), (18, dP D_impl_ValidStore), (88, dP Dz_impl_Store_fromDay)]) := DD_cons D_impl_isDay_ok.e <| DD_cons D_impl_ValidStore_ok.e <| DD_cons Dz_impl_Store_fromDay_ok.e <| DD_nil _
def impl_ShortSpares_b1 (a0 : Store) (a1 : Int) (i1 : Nat) (s1 : List (List UInt8)) : Except (((List (List UInt8)) × Int)) (List (List UInt8)) :=
  (bif decide (((impl_Store_fromDay a0 ((a0.Spares.getD i1 default).Name) a1).getD 0 default) < ((a0.Spares.getD i1 default).Least)) then .ok (s1 ++ [(a0.Spares.getD i1 default).Name]) else .ok s1)

def impl_ShortSpares (a0 : Store) (a1 : Int) : ((List (List UInt8)) × Int) :=
  (bif (!(impl_ValidStore a0)) then ([], 1) else (bif (!(impl_isDay a1)) then ([], 2) else (match loopR (impl_ShortSpares_b1 a0 a1) (a0.Spares.length - 0) 0 ([] : List (List UInt8)) with | .error e => e | .ok s1 => (s1, 0))))

theorem impl_ShortSpares_den (a0 : Store) (a1 : Int) (hb0 : bdStore a0) : Den Try.prog 40 [.agg (eStore a0), .int .i64 a1] (.tup [ownL 9 1 eS ((impl_ShortSpares a0 a1).1), .int .i64 ((impl_ShortSpares a0 a1).2)]) := by
  generalize hR : impl_ShortSpares a0 a1 = r
  unfold impl_ShortSpares at hR
  refine den_intro G_ok Try.func40 (by kernel_rfl) rfl Try.ntmps40 (by rw [Try.results40]) (by simp) rfl ?_
  intro c hL hc hk
  obtain ⟨hL0, hL1, _⟩ := hL
  have hw0 : bwStore a0 := Store_lens a0 hL0
  clear hL0 hL1
  simp only [pars, Nat.zero_add]
  refine AWP.seq ?_
  refine AWP.regS G_ok impl_ShortSpares_DD hc (by kernel_rfl) (fun K hK => ?_); simp only [ea, gv, sv, D_impl_isDay, D_impl_ValidStore, D_impl_Store_fromDay, Dz_impl_Store_fromDay, reduceCtorEq, reduceIte, Nat.reduceBEq, Nat.reduceAdd, Nat.reduceEqDiff, Nat.reduceLT, Nat.reduceLeDiff, Nat.reduceMul, Nat.reduceSub, BEq.rfl, beq_self_eq_true, Int.reduceToNat]
  (refine hK _ ?_)
  clear hK K
  refine AWP.seq ?_
  refine AWP.seq ?_
  refine AWP.regS G_ok impl_ShortSpares_DD hc (by kernel_rfl) (fun K hK => ?_); simp only [ea, gv, sv, D_impl_isDay, D_impl_ValidStore, D_impl_Store_fromDay, Dz_impl_Store_fromDay, reduceCtorEq, reduceIte, Nat.reduceBEq, Nat.reduceAdd, Nat.reduceEqDiff, Nat.reduceLT, Nat.reduceLeDiff, Nat.reduceMul, Nat.reduceSub, BEq.rfl, beq_self_eq_true, Int.reduceToNat]
  (refine ⟨by (trivial), hK _ ?_⟩)
  clear hK K
  refine AWP.cond rfl (fun hb => ?_) (fun hb => ?_)
  · (simp only [hb, cond_true] at hR)
    refine AWP.seq ?_
    refine AWP.regS G_ok impl_ShortSpares_DD hc (by kernel_rfl) (fun K hK => ?_); simp only [ea, gv, sv, D_impl_isDay, D_impl_ValidStore, D_impl_Store_fromDay, Dz_impl_Store_fromDay, reduceCtorEq, reduceIte, Nat.reduceBEq, Nat.reduceAdd, Nat.reduceEqDiff, Nat.reduceLT, Nat.reduceLeDiff, Nat.reduceMul, Nat.reduceSub, BEq.rfl, beq_self_eq_true, Int.reduceToNat]
    (refine hK _ ?_)
    clear hK K
    refine AWP.ret ?_
    subst hR
    (simp only [en, si, ea, gv, sv, hk, reduceCtorEq, reduceIte, Nat.reduceBEq, Nat.reduceAdd, Nat.reduceEqDiff, Nat.reduceLT, Nat.reduceLeDiff, Nat.reduceMul, Nat.reduceSub, BEq.rfl, beq_self_eq_true, Int.reduceToNat]; done)
  · (simp only [hb, cond_false] at hR)
    refine AWP.skip ?_
    refine AWP.seq ?_
    refine AWP.seq ?_
    refine AWP.regS G_ok impl_ShortSpares_DD hc (by kernel_rfl) (fun K hK => ?_); simp only [ea, gv, sv, D_impl_isDay, D_impl_ValidStore, D_impl_Store_fromDay, Dz_impl_Store_fromDay, reduceCtorEq, reduceIte, Nat.reduceBEq, Nat.reduceAdd, Nat.reduceEqDiff, Nat.reduceLT, Nat.reduceLeDiff, Nat.reduceMul, Nat.reduceSub, BEq.rfl, beq_self_eq_true, Int.reduceToNat]
    (refine hK _ ?_)
    clear hK K
    refine AWP.cond rfl (fun hb => ?_) (fun hb => ?_)
    · (simp only [hb, cond_true] at hR)
      refine AWP.seq ?_
      refine AWP.regS G_ok impl_ShortSpares_DD hc (by kernel_rfl) (fun K hK => ?_); simp only [ea, gv, sv, D_impl_isDay, D_impl_ValidStore, D_impl_Store_fromDay, Dz_impl_Store_fromDay, reduceCtorEq, reduceIte, Nat.reduceBEq, Nat.reduceAdd, Nat.reduceEqDiff, Nat.reduceLT, Nat.reduceLeDiff, Nat.reduceMul, Nat.reduceSub, BEq.rfl, beq_self_eq_true, Int.reduceToNat]
      (refine hK _ ?_)
      clear hK K
      refine AWP.ret ?_
      subst hR
      (simp only [en, si, ea, gv, sv, hk, reduceCtorEq, reduceIte, Nat.reduceBEq, Nat.reduceAdd, Nat.reduceEqDiff, Nat.reduceLT, Nat.reduceLeDiff, Nat.reduceMul, Nat.reduceSub, BEq.rfl, beq_self_eq_true, Int.reduceToNat]; done)
    · (simp only [hb, cond_false] at hR)
      refine AWP.skip ?_
      refine AWP.seq ?_
      refine AWP.regS G_ok impl_ShortSpares_DD hc (by kernel_rfl) (fun K hK => ?_); simp only [ea, gv, sv, D_impl_isDay, D_impl_ValidStore, D_impl_Store_fromDay, Dz_impl_Store_fromDay, reduceCtorEq, reduceIte, Nat.reduceBEq, Nat.reduceAdd, Nat.reduceEqDiff, Nat.reduceLT, Nat.reduceLeDiff, Nat.reduceMul, Nat.reduceSub, BEq.rfl, beq_self_eq_true, Int.reduceToNat]
      (refine hK _ ?_)
      clear hK K
      refine AWP.seq ?_
      refine AWP.seq ?_
      refine AWP.regS G_ok impl_ShortSpares_DD hc (by kernel_rfl) (fun K hK => ?_); simp only [ea, gv, sv, D_impl_isDay, D_impl_ValidStore, D_impl_Store_fromDay, Dz_impl_Store_fromDay, reduceCtorEq, reduceIte, Nat.reduceBEq, Nat.reduceAdd, Nat.reduceEqDiff, Nat.reduceLT, Nat.reduceLeDiff, Nat.reduceMul, Nat.reduceSub, BEq.rfl, beq_self_eq_true, Int.reduceToNat]
      (refine hK _ ?_)
      clear hK K
      refine AWP.block ?_
      refine AWP.lensS 17 rfl (fun hLn1 => ?_)
      generalize hz1 : loopR (impl_ShortSpares_b1 a0 a1) (a0.Spares.length - 0) 0 ([] : List (List UInt8)) = z1 at hR
      refine AWP.range (impl_ShortSpares_b1 a0 a1) (fun i1 s1 => ⟨[(1, .int .i64 a1), (2, .ptr 0 0), (6, .ref 1 1 0 s1.length), (17, encL 3 eSpare a0.Spares), (18, .int .i64 (a0.Spares.length : Int)), (19, .int .i64 (i1 : Int))], [.box [encL 3 eSpare a0.Spares, encL 3 eEntry a0.Entries], .arr 9 1 s1.length (fun j => eS (s1.getD j default))]⟩) (fun i1 s1 => s1.length ≤ ([] : List (List UInt8)).length + 1 * i1) (a0.Spares.length) 0 ([] : List (List UInt8)) [0, 1] hz1 (by (omega)) (by (trivial)) (by (simp only [si, ea, gv, sv, hk, reduceCtorEq, reduceIte, Nat.reduceBEq, Nat.reduceAdd, Nat.reduceEqDiff, Nat.reduceLT, Nat.reduceLeDiff, Nat.reduceMul, Nat.reduceSub, BEq.rfl, beq_self_eq_true, Int.reduceToNat]; trivial)) ?_
      clear hz1
      intro i1 s1 hi1 hW1 hz1
      refine AWP.seq ?_
      refine AWP.regS G_ok impl_ShortSpares_DD hc (by kernel_rfl) (fun K hK => ?_); simp only [ea, gv, sv, D_impl_isDay, D_impl_ValidStore, D_impl_Store_fromDay, Dz_impl_Store_fromDay, reduceCtorEq, reduceIte, Nat.reduceBEq, Nat.reduceAdd, Nat.reduceEqDiff, Nat.reduceLT, Nat.reduceLeDiff, Nat.reduceMul, Nat.reduceSub, BEq.rfl, beq_self_eq_true, Int.reduceToNat]
      (refine hK _ ?_)
      clear hK K
      refine AWP.seq ?_
      refine AWP.cond rfl (fun hb => ?_) (fun hb => ?_)
      · have hlt1 : i1 < a0.Spares.length := by ((simp only [ob, ln, bdv, sv] at *; omega))
        rw [loopR_lt hlt1] at hz1; simp only [impl_ShortSpares_b1] at hz1
        refine AWP.skip ?_
        refine AWP.seq ?_
        refine AWP.block ?_
        refine AWP.seq ?_
        refine AWP.regS G_ok impl_ShortSpares_DD hc (by kernel_rfl) (fun K hK => ?_); simp only [ea, gv, sv, D_impl_isDay, D_impl_ValidStore, D_impl_Store_fromDay, Dz_impl_Store_fromDay, reduceCtorEq, reduceIte, Nat.reduceBEq, Nat.reduceAdd, Nat.reduceEqDiff, Nat.reduceLT, Nat.reduceLeDiff, Nat.reduceMul, Nat.reduceSub, BEq.rfl, beq_self_eq_true, Int.reduceToNat]
        (refine ⟨by (omega), hK _ ?_⟩)
        clear hK K
        refine AWP.seq ?_
        refine AWP.regD mixed G_ok impl_ShortSpares_DZ hc 10 (by kernel_rfl) (by kernel_rfl) (fun K hK => ?_); simp only [ea, gv, sv, D_impl_isDay, D_impl_ValidStore, D_impl_Store_fromDay, Dz_impl_Store_fromDay, reduceCtorEq, reduceIte, Nat.reduceBEq, Nat.reduceAdd, Nat.reduceEqDiff, Nat.reduceLT, Nat.reduceLeDiff, Nat.reduceMul, Nat.reduceSub, BEq.rfl, beq_self_eq_true, Int.reduceToNat]
        (refine ⟨by (((try clear hK K); (repeat' first | apply And.intro | intro _) <;> first | trivial | (simp only [ob, ln, bdv, sv] at *; first | omega | (simp_all; done) | grind [impl_Store_fromDay_len]))), hK _ ?_⟩)
        clear hK K
        refine AWP.cond rfl (fun hb => ?_) (fun hb => ?_)
        · (simp only [hb, cond_true] at hz1)
          refine AWP.regS G_ok impl_ShortSpares_DD hc (by kernel_rfl) (fun K hK => ?_); simp only [ea, gv, sv, D_impl_isDay, D_impl_ValidStore, D_impl_Store_fromDay, Dz_impl_Store_fromDay, reduceCtorEq, reduceIte, Nat.reduceBEq, Nat.reduceAdd, Nat.reduceEqDiff, Nat.reduceLT, Nat.reduceLeDiff, Nat.reduceMul, Nat.reduceSub, BEq.rfl, beq_self_eq_true, Int.reduceToNat]
          (refine ⟨by (((try clear hK K); (repeat' (apply And.intro)) <;> first | omega | (simp only [ob, ln, bdv, sv] at *; omega))), hK _ ?_⟩)
          clear hK K
          refine AWP.regS G_ok impl_ShortSpares_DD hc (by kernel_rfl) (fun K hK => ?_); simp only [ea, gv, sv, D_impl_isDay, D_impl_ValidStore, D_impl_Store_fromDay, Dz_impl_Store_fromDay, reduceCtorEq, reduceIte, Nat.reduceBEq, Nat.reduceAdd, Nat.reduceEqDiff, Nat.reduceLT, Nat.reduceLeDiff, Nat.reduceMul, Nat.reduceSub, BEq.rfl, beq_self_eq_true, Int.reduceToNat]
          (refine hK _ ?_)
          clear hK K
          exact ⟨_, [0, 4], hlt1, by ((and_intros <;> simp only [ob, ln] at * <;> omega)), hz1, by (simp only [si, ea, gv, sv, hk, reduceCtorEq, reduceIte, Nat.reduceBEq, Nat.reduceAdd, Nat.reduceEqDiff, Nat.reduceLT, Nat.reduceLeDiff, Nat.reduceMul, Nat.reduceSub, BEq.rfl, beq_self_eq_true, Int.reduceToNat]; (and_intros <;> first | trivial | (rw [IntKind.wrap_i64]; omega) | (simp only [ln]; done) | (intro j hj; simp only [pw, Bool.cond_eq_ite, Bool.and_eq_true, decide_eq_true_eq]; (try rw [subL_getD _ _ _ _ (by assumption)]); (try rw [clearL_getD _ _ _ _ (by omega)]); (repeat' split) <;> first | rfl | omega)))⟩
        · (simp only [hb, cond_false] at hz1)
          refine AWP.skip ?_
          refine AWP.regS G_ok impl_ShortSpares_DD hc (by kernel_rfl) (fun K hK => ?_); simp only [ea, gv, sv, D_impl_isDay, D_impl_ValidStore, D_impl_Store_fromDay, Dz_impl_Store_fromDay, reduceCtorEq, reduceIte, Nat.reduceBEq, Nat.reduceAdd, Nat.reduceEqDiff, Nat.reduceLT, Nat.reduceLeDiff, Nat.reduceMul, Nat.reduceSub, BEq.rfl, beq_self_eq_true, Int.reduceToNat]
          (refine hK _ ?_)
          clear hK K
          exact ⟨_, [0, 1], hlt1, by ((and_intros <;> simp only [ob, ln] at * <;> omega)), hz1, by (simp only [si, ea, gv, sv, hk, reduceCtorEq, reduceIte, Nat.reduceBEq, Nat.reduceAdd, Nat.reduceEqDiff, Nat.reduceLT, Nat.reduceLeDiff, Nat.reduceMul, Nat.reduceSub, BEq.rfl, beq_self_eq_true, Int.reduceToNat]; (and_intros <;> first | trivial | (rw [IntKind.wrap_i64]; omega)))⟩
      · obtain rfl : i1 = a0.Spares.length := by ((simp only [ob, ln, bdv, sv] at *; omega))
        rw [loopR_ge (Nat.le_refl _)] at hz1; subst hz1; dsimp only at hR
        refine AWP.exit ?_; refine exitTo_here ?_
        refine AWP.seq ?_
        refine AWP.regS G_ok impl_ShortSpares_DD hc (by kernel_rfl) (fun K hK => ?_); simp only [ea, gv, sv, D_impl_isDay, D_impl_ValidStore, D_impl_Store_fromDay, Dz_impl_Store_fromDay, reduceCtorEq, reduceIte, Nat.reduceBEq, Nat.reduceAdd, Nat.reduceEqDiff, Nat.reduceLT, Nat.reduceLeDiff, Nat.reduceMul, Nat.reduceSub, BEq.rfl, beq_self_eq_true, Int.reduceToNat]
        (refine hK _ ?_)
        clear hK K
        refine AWP.ret ?_
        subst hR
        (simp only [en, si, ea, gv, sv, hk, reduceCtorEq, reduceIte, Nat.reduceBEq, Nat.reduceAdd, Nat.reduceEqDiff, Nat.reduceLT, Nat.reduceLeDiff, Nat.reduceMul, Nat.reduceSub, BEq.rfl, beq_self_eq_true, Int.reduceToNat]; (and_intros <;> omega))

def D_impl_ShortSpares : DF
  | [x0, x1] => some (.tup [ownL 9 1 eS ((impl_ShortSpares (rdG dStore x0) (rdI x1)).1), .int .i64 ((impl_ShortSpares (rdG dStore x0) (rdI x1)).2)], false, [wG eStore dStore x0, wI .i64 x1, bdStore (rdG dStore x0)])
  | _ => none
def Dz_impl_ShortSpares : DF
  | [x0, x1] => some (.tup [ownL 9 1 eS ((impl_ShortSpares (rdG dStore x0) (rdI x1)).1), .int .i64 ((impl_ShortSpares (rdG dStore x0) (rdI x1)).2)], true, [wG eStore dStore x0, wI .i64 x1, bdStore (rdG dStore x0)])
  | _ => none
theorem D_impl_ShortSpares_ok : OkD Try.prog 40 D_impl_ShortSpares := by
  intro xs r z ob h ho
  unfold D_impl_ShortSpares at h
  split at h
  · simp only [Option.some.injEq, Prod.mk.injEq] at h
    obtain ⟨rfl, rfl, rfl⟩ := h
    obtain ⟨h0, h1, hb0, _⟩ := ho
    exact Den.sim (impl_ShortSpares_den _ _ hb0) (simOL_cons (wG_sim h0).1 <| simOL_cons (wI_sim h1).1 <| trivial) (noIdL_cons (wG_sim h0).2 <| noIdL_cons (wI_sim h1).2 <| rfl) rfl
  · cases h

theorem Dz_impl_ShortSpares_ok : OkD Try.prog 40 Dz_impl_ShortSpares := by
  intro xs r z ob h ho
  unfold Dz_impl_ShortSpares at h
  split at h
  · simp only [Option.some.injEq, Prod.mk.injEq] at h
    obtain ⟨rfl, rfl, rfl⟩ := h
    obtain ⟨h0, h1, hb0, _⟩ := ho
    exact Den.sim (impl_ShortSpares_den _ _ hb0) (simOL_cons (wG_sim h0).1 <| simOL_cons (wI_sim h1).1 <| trivial) (noIdL_cons (wG_sim h0).2 <| noIdL_cons (wI_sim h1).2 <| rfl) rfl
  · cases h
end Go.Ab

namespace Go.Ab
open Go Go.Proofs
theorem impl_ShortSpares_len (a : Store) (d : Int) : (impl_ShortSpares a d).1.length ≤ a.Spares.length := by
  unfold impl_ShortSpares
  cases impl_ValidStore a with
  | false => simp
  | true =>
    cases impl_isDay d with
    | false => simp
    | true =>
      simp only [Bool.not_true, cond_false]
      obtain ⟨t, q1, q2⟩ := loopR_total (b := impl_ShortSpares_b1 a d) (fun i s => s.length ≤ i) (k := a.Spares.length - 0) (i := 0) (s := []) (by simp) (by
        intro j u _ _ h
        simp only [impl_ShortSpares_b1]
        cases decide (((impl_Store_fromDay a (a.Spares.getD j default).Name d).getD 0 default) < (a.Spares.getD j default).Least) with
        | true => exact ⟨_, rfl, by simp only [List.length_append, List.length_cons, List.length_nil]; omega⟩
        | false => exact ⟨_, rfl, by omega⟩)
      rw [q1]
      simpa using q2
end Go.Ab

namespace Go.Ab
open Go Go.Proofs
theorem laws_markSpareS_DD : DOk Try.prog (DD [(82, dP D_laws_markText)]) := DD_cons D_laws_markText_ok.e <| DD_nil _
def laws_markSpareS_b1 (a0 : (List Spare)) (a1 : Int) (i1 : Nat) (s1 : Int × List Spare) : Except (Int × (List Spare)) (Int × List Spare) :=
  .ok (IntKind.wrap .i64 ((IntKind.wrap .i64 ((IntKind.wrap .i64 (s1.1 + 1)) + 1)) + 1), s1.2.set i1 ({ Name := (laws_markText s1.1), Least := IntKind.wrap .i64 (s1.1 + 1), Most := IntKind.wrap .i64 ((IntKind.wrap .i64 (s1.1 + 1)) + 1) : Spare }))

def laws_markSpareS (a0 : (List Spare)) (a1 : Int) : Int × (List Spare) :=
  (match loopR (laws_markSpareS_b1 a0 a1) (a0.length - 0) 0 (a1, a0) with | .error e => e | .ok s1 => (s1.1, s1.2))

theorem laws_markSpareS_den (a0 : (List Spare)) (a1 : Int) (hp0 : 0 ≤ a1) (hp1 : a1 ≤ 1152921504606846976) (hp2 : a0.length < 1099511627776) : DenM Try.prog 98 [ownL 63 3 eSpare a0, .int .i64 a1] (.int .i64 ((laws_markSpareS a0 a1).1)) [(ownL 63 3 eSpare ((laws_markSpareS a0 a1).2)), .any] := by
  generalize hR : laws_markSpareS a0 a1 = r
  unfold laws_markSpareS at hR
  refine den_introM (gb := [true, false]) G_ok Try.func98 (by kernel_rfl) rfl Try.ntmps98 (by rw [Try.results98]) (by simp) ?_
  intro c hL hc hk
  obtain ⟨hL0, hL1, _⟩ := hL
  have hw0 : a0.length < 9223372036854775808 := Nat.lt_succ_of_le (lens_ownL hL0).1
  have hw1 : ∀ v ∈ a0, bwSpare v := fun v hv => Spare_lens v ((lens_ownL hL0).2 v hv)
  clear hL0 hL1
  simp only [adEL, adE, adRL, adR, ownL, encL, sv, List.nil_append, List.append_nil, List.cons_append, List.length_cons, List.length_nil, pars, Nat.zero_add, Nat.reduceAdd] at hk ⊢
  refine AWP.seq ?_
  refine AWP.regS G_ok laws_markSpareS_DD hc (by kernel_rfl) (fun K hK => ?_); simp only [ea, gv, sv, D_laws_markText, reduceCtorEq, reduceIte, Nat.reduceBEq, Nat.reduceAdd, Nat.reduceEqDiff, Nat.reduceLT, Nat.reduceLeDiff, Nat.reduceMul, Nat.reduceSub, BEq.rfl, beq_self_eq_true, Int.reduceToNat]
  (refine hK _ ?_)
  clear hK K
  refine AWP.seq ?_
  refine AWP.seq ?_
  refine AWP.regS G_ok laws_markSpareS_DD hc (by kernel_rfl) (fun K hK => ?_); simp only [ea, gv, sv, D_laws_markText, reduceCtorEq, reduceIte, Nat.reduceBEq, Nat.reduceAdd, Nat.reduceEqDiff, Nat.reduceLT, Nat.reduceLeDiff, Nat.reduceMul, Nat.reduceSub, BEq.rfl, beq_self_eq_true, Int.reduceToNat]
  (refine hK _ ?_)
  clear hK K
  refine AWP.block ?_
  generalize hz1 : loopR (laws_markSpareS_b1 a0 a1) (a0.length - 0) 0 (a1, a0) = z1 at hR
  refine AWP.range (laws_markSpareS_b1 a0 a1) (fun i1 s1 => ⟨[(0, .ref 0 3 0 s1.2.length), (1, .int .i64 s1.1), (5, .int .i64 (i1 : Int))], [.arr 63 3 s1.2.length (fun j => eSpare (s1.2.getD j default))]⟩) (fun i1 s1 => s1.2.length = a0.length ∧ 0 ≤ s1.1 ∧ s1.1 ≤ a1 + 3 * i1) (a0.length) 0 (a1, a0) [0] hz1 (by (omega)) (by ((and_intros <;> simp only [ln] <;> omega))) (by (simp only [si, ea, gv, sv, hk, reduceCtorEq, reduceIte, Nat.reduceBEq, Nat.reduceAdd, Nat.reduceEqDiff, Nat.reduceLT, Nat.reduceLeDiff, Nat.reduceMul, Nat.reduceSub, BEq.rfl, beq_self_eq_true, Int.reduceToNat]; trivial)) ?_
  clear hz1
  intro i1 s1 hi1 hW1 hz1
  refine AWP.seq ?_
  refine AWP.seq ?_
  refine AWP.regS G_ok laws_markSpareS_DD hc (by kernel_rfl) (fun K hK => ?_); simp only [ea, gv, sv, D_laws_markText, reduceCtorEq, reduceIte, Nat.reduceBEq, Nat.reduceAdd, Nat.reduceEqDiff, Nat.reduceLT, Nat.reduceLeDiff, Nat.reduceMul, Nat.reduceSub, BEq.rfl, beq_self_eq_true, Int.reduceToNat]
  (refine hK _ ?_)
  clear hK K
  refine AWP.cond rfl (fun hb => ?_) (fun hb => ?_)
  · have hlt1 : i1 < a0.length := by ((simp only [ob, ln, bdv, sv] at *; omega))
    rw [loopR_lt hlt1] at hz1; simp only [laws_markSpareS_b1] at hz1
    refine AWP.skip ?_
    refine AWP.seq ?_
    refine AWP.block ?_
    refine AWP.seq ?_
    refine AWP.regS G_ok laws_markSpareS_DD hc (by kernel_rfl) (fun K hK => ?_); simp only [ea, gv, sv, D_laws_markText, reduceCtorEq, reduceIte, Nat.reduceBEq, Nat.reduceAdd, Nat.reduceEqDiff, Nat.reduceLT, Nat.reduceLeDiff, Nat.reduceMul, Nat.reduceSub, BEq.rfl, beq_self_eq_true, Int.reduceToNat]
    (refine ⟨by (omega), hK _ ?_⟩)
    clear hK K
    refine AWP.seq ?_
    refine AWP.regS G_ok laws_markSpareS_DD hc (by kernel_rfl) (fun K hK => ?_); simp only [ea, gv, sv, D_laws_markText, reduceCtorEq, reduceIte, Nat.reduceBEq, Nat.reduceAdd, Nat.reduceEqDiff, Nat.reduceLT, Nat.reduceLeDiff, Nat.reduceMul, Nat.reduceSub, BEq.rfl, beq_self_eq_true, Int.reduceToNat]
    (refine hK _ ?_)
    clear hK K
    refine AWP.seq ?_
    refine AWP.regS G_ok laws_markSpareS_DD hc (by kernel_rfl) (fun K hK => ?_); simp only [ea, gv, sv, D_laws_markText, reduceCtorEq, reduceIte, Nat.reduceBEq, Nat.reduceAdd, Nat.reduceEqDiff, Nat.reduceLT, Nat.reduceLeDiff, Nat.reduceMul, Nat.reduceSub, BEq.rfl, beq_self_eq_true, Int.reduceToNat]
    (refine ⟨by (omega), hK _ ?_⟩)
    clear hK K
    refine AWP.seq ?_
    refine AWP.regS G_ok laws_markSpareS_DD hc (by kernel_rfl) (fun K hK => ?_); simp only [ea, gv, sv, D_laws_markText, reduceCtorEq, reduceIte, Nat.reduceBEq, Nat.reduceAdd, Nat.reduceEqDiff, Nat.reduceLT, Nat.reduceLeDiff, Nat.reduceMul, Nat.reduceSub, BEq.rfl, beq_self_eq_true, Int.reduceToNat]
    (refine hK _ ?_)
    clear hK K
    refine AWP.seq ?_
    refine AWP.regS G_ok laws_markSpareS_DD hc (by kernel_rfl) (fun K hK => ?_); simp only [ea, gv, sv, D_laws_markText, reduceCtorEq, reduceIte, Nat.reduceBEq, Nat.reduceAdd, Nat.reduceEqDiff, Nat.reduceLT, Nat.reduceLeDiff, Nat.reduceMul, Nat.reduceSub, BEq.rfl, beq_self_eq_true, Int.reduceToNat]
    (refine ⟨by (omega), hK _ ?_⟩)
    clear hK K
    refine AWP.regS G_ok laws_markSpareS_DD hc (by kernel_rfl) (fun K hK => ?_); simp only [ea, gv, sv, D_laws_markText, reduceCtorEq, reduceIte, Nat.reduceBEq, Nat.reduceAdd, Nat.reduceEqDiff, Nat.reduceLT, Nat.reduceLeDiff, Nat.reduceMul, Nat.reduceSub, BEq.rfl, beq_self_eq_true, Int.reduceToNat]
    (refine hK _ ?_)
    clear hK K
    refine AWP.regS G_ok laws_markSpareS_DD hc (by kernel_rfl) (fun K hK => ?_); simp only [ea, gv, sv, D_laws_markText, reduceCtorEq, reduceIte, Nat.reduceBEq, Nat.reduceAdd, Nat.reduceEqDiff, Nat.reduceLT, Nat.reduceLeDiff, Nat.reduceMul, Nat.reduceSub, BEq.rfl, beq_self_eq_true, Int.reduceToNat]
    (refine hK _ ?_)
    clear hK K
    exact ⟨_, [0], hlt1, by ((and_intros <;> simp only [ob, ln] at * <;> omega)), hz1, by (simp only [si, ea, gv, sv, hk, reduceCtorEq, reduceIte, Nat.reduceBEq, Nat.reduceAdd, Nat.reduceEqDiff, Nat.reduceLT, Nat.reduceLeDiff, Nat.reduceMul, Nat.reduceSub, BEq.rfl, beq_self_eq_true, Int.reduceToNat]; (and_intros <;> first | trivial | (rw [IntKind.wrap_i64]; omega) | (simp only [ln]; done) | (intro j hj; simp only [pw, Bool.cond_eq_ite, Bool.and_eq_true, decide_eq_true_eq]; (try rw [subL_getD _ _ _ _ (by assumption)]); (try rw [clearL_getD _ _ _ _ (by omega)]); (repeat' split) <;> first | rfl | omega)))⟩
  · obtain rfl : i1 = a0.length := by ((simp only [ob, ln, bdv, sv] at *; omega))
    rw [loopR_ge (Nat.le_refl _)] at hz1; subst hz1; dsimp only at hR
    refine AWP.exit ?_; refine exitTo_here ?_
    refine AWP.seq ?_
    refine AWP.regS G_ok laws_markSpareS_DD hc (by kernel_rfl) (fun K hK => ?_); simp only [ea, gv, sv, D_laws_markText, reduceCtorEq, reduceIte, Nat.reduceBEq, Nat.reduceAdd, Nat.reduceEqDiff, Nat.reduceLT, Nat.reduceLeDiff, Nat.reduceMul, Nat.reduceSub, BEq.rfl, beq_self_eq_true, Int.reduceToNat]
    (refine hK _ ?_)
    clear hK K
    refine AWP.ret ?_
    subst hR
    (simp only [en, si, ea, gv, sv, hk, reduceCtorEq, reduceIte, Nat.reduceBEq, Nat.reduceAdd, Nat.reduceEqDiff, Nat.reduceLT, Nat.reduceLeDiff, Nat.reduceMul, Nat.reduceSub, BEq.rfl, beq_self_eq_true, Int.reduceToNat]; (and_intros <;> omega))

def D_laws_markSpareS : List AV → Option (AV × List AV × List Prop)
  | [x0, x1] => some (.int .i64 ((laws_markSpareS (rdL dSpare x0) (rdI x1)).1), [(ownL 63 3 eSpare ((laws_markSpareS (rdL dSpare x0) (rdI x1)).2)), .any], [wO 63 3 eSpare dSpare x0, wI .i64 x1, 0 ≤ (rdI x1), (rdI x1) ≤ 1152921504606846976, (rdL dSpare x0).length < 1099511627776])
  | _ => none
theorem D_laws_markSpareS_ok : OkM Try.prog 98 D_laws_markSpareS := by
  intro xs r outs ob h ho
  unfold D_laws_markSpareS at h
  split at h
  · simp only [Option.some.injEq, Prod.mk.injEq] at h
    obtain ⟨rfl, rfl, rfl⟩ := h
    obtain ⟨h0, h1, hp0, hp1, hp2, _⟩ := ho
    exact DenM.sim (laws_markSpareS_den _ _ hp0 hp1 hp2) (simOL_cons (wO_sim h0) <| simOL_cons (wI_sim h1).1 <| trivial)
  · cases h
end Go.Ab

namespace Go.Ab
open Go Go.Proofs
theorem laws_heldSpareS_DD : DOk Try.prog (DD [(82, dP D_laws_markText)]) := DD_cons D_laws_markText_ok.e <| DD_nil _
def laws_heldSpareS_b1 (a0 : (List Spare)) (a1 : Int) (i1 : Nat) (s1 : Int) : Except (Int) (Int) :=
  (bif (((a0.getD i1 default).Name) != (laws_markText s1)) then .error (-1) else (bif (((a0.getD i1 default).Least) != (IntKind.wrap .i64 (s1 + 1))) then .error (-1) else (bif (((a0.getD i1 default).Most) != (IntKind.wrap .i64 ((IntKind.wrap .i64 (s1 + 1)) + 1))) then .error (-1) else .ok (IntKind.wrap .i64 ((IntKind.wrap .i64 ((IntKind.wrap .i64 (s1 + 1)) + 1)) + 1)))))

def laws_heldSpareS (a0 : (List Spare)) (a1 : Int) : Int :=
  (match loopR (laws_heldSpareS_b1 a0 a1) (a0.length - 0) 0 a1 with | .error e => e | .ok s1 => s1)

theorem laws_heldSpareS_den (a0 : (List Spare)) (a1 : Int) (hp0 : 0 ≤ a1) (hp1 : a1 ≤ 1152921504606846976) (hp2 : a0.length < 1099511627776) : Den Try.prog 99 [encL 3 eSpare a0, .int .i64 a1] (.int .i64 (laws_heldSpareS a0 a1)) := by
  generalize hR : laws_heldSpareS a0 a1 = r
  unfold laws_heldSpareS at hR
  refine den_intro G_ok Try.func99 (by kernel_rfl) rfl Try.ntmps99 (by rw [Try.results99]) (by simp) rfl ?_
  intro c hL hc hk
  obtain ⟨hL0, hL1, _⟩ := hL
  have hw0 : a0.length < 9223372036854775808 := Nat.lt_succ_of_le (lens_encL hL0).1
  have hw1 : ∀ v ∈ a0, bwSpare v := fun v hv => Spare_lens v ((lens_encL hL0).2 v hv)
  clear hL0 hL1
  simp only [pars, Nat.zero_add]
  refine AWP.seq ?_
  refine AWP.regS G_ok laws_heldSpareS_DD hc (by kernel_rfl) (fun K hK => ?_); simp only [ea, gv, sv, D_laws_markText, reduceCtorEq, reduceIte, Nat.reduceBEq, Nat.reduceAdd, Nat.reduceEqDiff, Nat.reduceLT, Nat.reduceLeDiff, Nat.reduceMul, Nat.reduceSub, BEq.rfl, beq_self_eq_true, Int.reduceToNat]
  (refine hK _ ?_)
  clear hK K
  refine AWP.seq ?_
  refine AWP.seq ?_
  refine AWP.regS G_ok laws_heldSpareS_DD hc (by kernel_rfl) (fun K hK => ?_); simp only [ea, gv, sv, D_laws_markText, reduceCtorEq, reduceIte, Nat.reduceBEq, Nat.reduceAdd, Nat.reduceEqDiff, Nat.reduceLT, Nat.reduceLeDiff, Nat.reduceMul, Nat.reduceSub, BEq.rfl, beq_self_eq_true, Int.reduceToNat]
  (refine hK _ ?_)
  clear hK K
  refine AWP.block ?_
  generalize hz1 : loopR (laws_heldSpareS_b1 a0 a1) (a0.length - 0) 0 a1 = z1 at hR
  refine AWP.range (laws_heldSpareS_b1 a0 a1) (fun i1 s1 => ⟨[(0, encL 3 eSpare a0), (1, .int .i64 s1), (5, .int .i64 (i1 : Int))], []⟩) (fun i1 s1 => 0 ≤ s1 ∧ s1 ≤ a1 + 3 * i1) (a0.length) 0 a1 [] hz1 (by (omega)) (by ((and_intros <;> simp only [ob, ln] at * <;> omega))) (by (simp only [si, ea, gv, sv, hk, reduceCtorEq, reduceIte, Nat.reduceBEq, Nat.reduceAdd, Nat.reduceEqDiff, Nat.reduceLT, Nat.reduceLeDiff, Nat.reduceMul, Nat.reduceSub, BEq.rfl, beq_self_eq_true, Int.reduceToNat]; trivial)) ?_
  clear hz1
  intro i1 s1 hi1 hW1 hz1
  refine AWP.seq ?_
  refine AWP.seq ?_
  refine AWP.regS G_ok laws_heldSpareS_DD hc (by kernel_rfl) (fun K hK => ?_); simp only [ea, gv, sv, D_laws_markText, reduceCtorEq, reduceIte, Nat.reduceBEq, Nat.reduceAdd, Nat.reduceEqDiff, Nat.reduceLT, Nat.reduceLeDiff, Nat.reduceMul, Nat.reduceSub, BEq.rfl, beq_self_eq_true, Int.reduceToNat]
  (refine hK _ ?_)
  clear hK K
  refine AWP.cond rfl (fun hb => ?_) (fun hb => ?_)
  · have hlt1 : i1 < a0.length := by ((simp only [ob, ln, bdv, sv] at *; omega))
    rw [loopR_lt hlt1] at hz1; simp only [laws_heldSpareS_b1] at hz1
    refine AWP.skip ?_
    refine AWP.seq ?_
    refine AWP.block ?_
    refine AWP.seq ?_
    refine AWP.seq ?_
    refine AWP.regD mixed G_ok laws_heldSpareS_DD hc 7 (by kernel_rfl) (by kernel_rfl) (fun K hK => ?_); simp only [ea, gv, sv, D_laws_markText, reduceCtorEq, reduceIte, Nat.reduceBEq, Nat.reduceAdd, Nat.reduceEqDiff, Nat.reduceLT, Nat.reduceLeDiff, Nat.reduceMul, Nat.reduceSub, BEq.rfl, beq_self_eq_true, Int.reduceToNat]
    (refine ⟨by (omega), hK _ ?_⟩)
    clear hK K
    refine AWP.cond rfl (fun hb => ?_) (fun hb => ?_)
    · (simp only [hb, cond_true] at hz1)
      refine AWP.seq ?_
      refine AWP.regS G_ok laws_heldSpareS_DD hc (by kernel_rfl) (fun K hK => ?_); simp only [ea, gv, sv, D_laws_markText, reduceCtorEq, reduceIte, Nat.reduceBEq, Nat.reduceAdd, Nat.reduceEqDiff, Nat.reduceLT, Nat.reduceLeDiff, Nat.reduceMul, Nat.reduceSub, BEq.rfl, beq_self_eq_true, Int.reduceToNat]
      (refine hK _ ?_)
      clear hK K
      refine AWP.ret ?_
      subst hz1
      dsimp only at hR
      subst hR
      (simp only [en, si, ea, gv, sv, hk, reduceCtorEq, reduceIte, Nat.reduceBEq, Nat.reduceAdd, Nat.reduceEqDiff, Nat.reduceLT, Nat.reduceLeDiff, Nat.reduceMul, Nat.reduceSub, BEq.rfl, beq_self_eq_true, Int.reduceToNat]; done)
    · (simp only [hb, cond_false] at hz1)
      refine AWP.skip ?_
      refine AWP.seq ?_
      refine AWP.regS G_ok laws_heldSpareS_DD hc (by kernel_rfl) (fun K hK => ?_); simp only [ea, gv, sv, D_laws_markText, reduceCtorEq, reduceIte, Nat.reduceBEq, Nat.reduceAdd, Nat.reduceEqDiff, Nat.reduceLT, Nat.reduceLeDiff, Nat.reduceMul, Nat.reduceSub, BEq.rfl, beq_self_eq_true, Int.reduceToNat]
      (refine hK _ ?_)
      clear hK K
      refine AWP.seq ?_
      refine AWP.seq ?_
      refine AWP.regS G_ok laws_heldSpareS_DD hc (by kernel_rfl) (fun K hK => ?_); simp only [ea, gv, sv, D_laws_markText, reduceCtorEq, reduceIte, Nat.reduceBEq, Nat.reduceAdd, Nat.reduceEqDiff, Nat.reduceLT, Nat.reduceLeDiff, Nat.reduceMul, Nat.reduceSub, BEq.rfl, beq_self_eq_true, Int.reduceToNat]
      (refine ⟨by (omega), hK _ ?_⟩)
      clear hK K
      refine AWP.cond rfl (fun hb => ?_) (fun hb => ?_)
      · (simp only [hb, cond_true] at hz1)
        refine AWP.seq ?_
        refine AWP.regS G_ok laws_heldSpareS_DD hc (by kernel_rfl) (fun K hK => ?_); simp only [ea, gv, sv, D_laws_markText, reduceCtorEq, reduceIte, Nat.reduceBEq, Nat.reduceAdd, Nat.reduceEqDiff, Nat.reduceLT, Nat.reduceLeDiff, Nat.reduceMul, Nat.reduceSub, BEq.rfl, beq_self_eq_true, Int.reduceToNat]
        (refine hK _ ?_)
        clear hK K
        refine AWP.ret ?_
        subst hz1
        dsimp only at hR
        subst hR
        (simp only [en, si, ea, gv, sv, hk, reduceCtorEq, reduceIte, Nat.reduceBEq, Nat.reduceAdd, Nat.reduceEqDiff, Nat.reduceLT, Nat.reduceLeDiff, Nat.reduceMul, Nat.reduceSub, BEq.rfl, beq_self_eq_true, Int.reduceToNat]; done)
      · (simp only [hb, cond_false] at hz1)
        refine AWP.skip ?_
        refine AWP.seq ?_
        refine AWP.regS G_ok laws_heldSpareS_DD hc (by kernel_rfl) (fun K hK => ?_); simp only [ea, gv, sv, D_laws_markText, reduceCtorEq, reduceIte, Nat.reduceBEq, Nat.reduceAdd, Nat.reduceEqDiff, Nat.reduceLT, Nat.reduceLeDiff, Nat.reduceMul, Nat.reduceSub, BEq.rfl, beq_self_eq_true, Int.reduceToNat]
        (refine hK _ ?_)
        clear hK K
        refine AWP.seq ?_
        refine AWP.seq ?_
        refine AWP.regS G_ok laws_heldSpareS_DD hc (by kernel_rfl) (fun K hK => ?_); simp only [ea, gv, sv, D_laws_markText, reduceCtorEq, reduceIte, Nat.reduceBEq, Nat.reduceAdd, Nat.reduceEqDiff, Nat.reduceLT, Nat.reduceLeDiff, Nat.reduceMul, Nat.reduceSub, BEq.rfl, beq_self_eq_true, Int.reduceToNat]
        (refine ⟨by (omega), hK _ ?_⟩)
        clear hK K
        refine AWP.cond rfl (fun hb => ?_) (fun hb => ?_)
        · (simp only [hb, cond_true] at hz1)
          refine AWP.seq ?_
          refine AWP.regS G_ok laws_heldSpareS_DD hc (by kernel_rfl) (fun K hK => ?_); simp only [ea, gv, sv, D_laws_markText, reduceCtorEq, reduceIte, Nat.reduceBEq, Nat.reduceAdd, Nat.reduceEqDiff, Nat.reduceLT, Nat.reduceLeDiff, Nat.reduceMul, Nat.reduceSub, BEq.rfl, beq_self_eq_true, Int.reduceToNat]
          (refine hK _ ?_)
          clear hK K
          refine AWP.ret ?_
          subst hz1
          dsimp only at hR
          subst hR
          (simp only [en, si, ea, gv, sv, hk, reduceCtorEq, reduceIte, Nat.reduceBEq, Nat.reduceAdd, Nat.reduceEqDiff, Nat.reduceLT, Nat.reduceLeDiff, Nat.reduceMul, Nat.reduceSub, BEq.rfl, beq_self_eq_true, Int.reduceToNat]; done)
        · (simp only [hb, cond_false] at hz1)
          refine AWP.skip ?_
          refine AWP.regS G_ok laws_heldSpareS_DD hc (by kernel_rfl) (fun K hK => ?_); simp only [ea, gv, sv, D_laws_markText, reduceCtorEq, reduceIte, Nat.reduceBEq, Nat.reduceAdd, Nat.reduceEqDiff, Nat.reduceLT, Nat.reduceLeDiff, Nat.reduceMul, Nat.reduceSub, BEq.rfl, beq_self_eq_true, Int.reduceToNat]
          (refine hK _ ?_)
          clear hK K
          refine AWP.regS G_ok laws_heldSpareS_DD hc (by kernel_rfl) (fun K hK => ?_); simp only [ea, gv, sv, D_laws_markText, reduceCtorEq, reduceIte, Nat.reduceBEq, Nat.reduceAdd, Nat.reduceEqDiff, Nat.reduceLT, Nat.reduceLeDiff, Nat.reduceMul, Nat.reduceSub, BEq.rfl, beq_self_eq_true, Int.reduceToNat]
          (refine hK _ ?_)
          clear hK K
          exact ⟨_, [], hlt1, by ((and_intros <;> simp only [ob, ln] at * <;> omega)), hz1, by (simp only [si, ea, gv, sv, hk, reduceCtorEq, reduceIte, Nat.reduceBEq, Nat.reduceAdd, Nat.reduceEqDiff, Nat.reduceLT, Nat.reduceLeDiff, Nat.reduceMul, Nat.reduceSub, BEq.rfl, beq_self_eq_true, Int.reduceToNat]; (and_intros <;> first | trivial | (rw [IntKind.wrap_i64]; omega)))⟩
  · obtain rfl : i1 = a0.length := by ((simp only [ob, ln, bdv, sv] at *; omega))
    rw [loopR_ge (Nat.le_refl _)] at hz1; subst hz1; dsimp only at hR
    refine AWP.exit ?_; refine exitTo_here ?_
    refine AWP.seq ?_
    refine AWP.regS G_ok laws_heldSpareS_DD hc (by kernel_rfl) (fun K hK => ?_); simp only [ea, gv, sv, D_laws_markText, reduceCtorEq, reduceIte, Nat.reduceBEq, Nat.reduceAdd, Nat.reduceEqDiff, Nat.reduceLT, Nat.reduceLeDiff, Nat.reduceMul, Nat.reduceSub, BEq.rfl, beq_self_eq_true, Int.reduceToNat]
    (refine hK _ ?_)
    clear hK K
    refine AWP.ret ?_
    subst hR
    (simp only [en, si, ea, gv, sv, hk, reduceCtorEq, reduceIte, Nat.reduceBEq, Nat.reduceAdd, Nat.reduceEqDiff, Nat.reduceLT, Nat.reduceLeDiff, Nat.reduceMul, Nat.reduceSub, BEq.rfl, beq_self_eq_true, Int.reduceToNat]; done)

def D_laws_heldSpareS : DF
  | [x0, x1] => some (.int .i64 (laws_heldSpareS (rdL dSpare x0) (rdI x1)), false, [wL 3 eSpare dSpare x0, wI .i64 x1, 0 ≤ (rdI x1), (rdI x1) ≤ 1152921504606846976, (rdL dSpare x0).length < 1099511627776])
  | _ => none
theorem D_laws_heldSpareS_ok : OkD Try.prog 99 D_laws_heldSpareS := by
  intro xs r z ob h ho
  unfold D_laws_heldSpareS at h
  split at h
  · simp only [Option.some.injEq, Prod.mk.injEq] at h
    obtain ⟨rfl, rfl, rfl⟩ := h
    obtain ⟨h0, h1, hp0, hp1, hp2, _⟩ := ho
    exact Den.sim (laws_heldSpareS_den _ _ hp0 hp1 hp2) (simOL_cons (wL_sim h0).1 <| simOL_cons (wI_sim h1).1 <| trivial) (noIdL_cons (wL_sim h0).2 <| noIdL_cons (wI_sim h1).2 <| rfl) rfl
  · cases h
end Go.Ab

namespace Go.Ab
open Go Go.Proofs
def mkSpare (v : Int) : Spare := ⟨(laws_markText v), (v + 1), (v + 2)⟩
theorem laws_markSpareS_len (a : List Spare) (k : Int) : (laws_markSpareS a k).2.length = a.length := by
  unfold laws_markSpareS
  obtain ⟨t, h1, h2⟩ := loopR_total (b := laws_markSpareS_b1 a k) (fun _ s => s.2.length = a.length) (k := a.length - 0) (i := 0) (s := (k, a)) rfl (by
    intro j u _ _ h
    exact ⟨_, rfl, by simpa using h⟩)
  rw [h1]
  exact h2
theorem laws_markSpareS_sub (a : List Spare) (k : Int) : subL (laws_markSpareS a k).2 0 a.length = (laws_markSpareS a k).2 := by
  rw [← laws_markSpareS_len a k]; exact subL_all _
theorem laws_markSpareS_eq (a : List Spare) (k : Int) (h0 : 0 ≤ k) (h1 : k + 3 * a.length < 4611686018427387904) : laws_markSpareS a k = (k + 3 * a.length, (List.range a.length).map (fun j : Nat => mkSpare (k + 3 * j))) := by
  unfold laws_markSpareS
  obtain ⟨t, q1, q2, q3, q4⟩ := loopR_total (b := laws_markSpareS_b1 a k) (fun i s => s.1 = k + 3 * i ∧ s.2.length = a.length ∧ ∀ j, j < i → s.2.getD j default = mkSpare (k + 3 * j)) (k := a.length - 0) (i := 0) (s := (k, a)) ⟨by simp, rfl, by intro j hj; omega⟩ (by
    intro j u _ hj ⟨h2, h3, h4⟩
    have w1 : ∀ m : Int, 0 ≤ m → m < 4611686018427387904 → IntKind.wrap .i64 (m + 1) = m + 1 := by intro m _ _; rw [IntKind.wrap_i64]; omega
    have w0 : ∀ m : Int, 0 ≤ m → m < 4611686018427387904 → IntKind.wrap .i64 m = m := by intro m _ _; rw [IntKind.wrap_i64]; omega
    refine ⟨_, rfl, ?_, ?_, ?_⟩
    · simp only [h2, IntKind.wrap_i64]; omega
    · simpa using h3
    · intro q hq
      simp only
      rw [lgetD_set]
      by_cases h : q = j
      · subst h
        rw [if_pos ⟨rfl, by omega⟩, h2]
        simp only [mkSpare]
        all_goals (try rw [Spare.mk.injEq])
        all_goals (and_intros <;> first | rfl | trivial | (simp only [IntKind.wrap_i64]; omega) | (congr 1; (simp only [IntKind.wrap_i64]; omega)))
      · rw [if_neg (fun hh => h hh.1)]
        exact h4 q (by omega))
  rw [q1]
  simp only [Nat.zero_add, Nat.sub_zero] at q2 q4
  simp only [q2]
  congr 1
  apply getD_ext
  · simpa using q3
  · intro i hi
    rw [q4 i (by omega)]
    simp [List.getD_eq_getElem?_getD]
    rw [List.getElem?_range (by omega)]
    rfl
theorem laws_markSpareS_k (a : List Spare) (k : Int) (h0 : 0 ≤ k) (h1 : k ≤ 1152921504606846976) (hl : a.length < 1099511627776) : (laws_markSpareS a k).1 = k + 3 * a.length := by
  rw [laws_markSpareS_eq a k h0 (by omega)]
theorem laws_heldSpareS_mark (a : List Spare) (k : Int) (h0 : 0 ≤ k) (hk : k ≤ 1152921504606846976) (h1 : a.length < 1099511627776) : laws_heldSpareS (laws_markSpareS a k).2 k = (laws_markSpareS a k).1 ∧ ¬ (laws_markSpareS a k).1 < 0 := by
  rw [laws_markSpareS_eq a k h0 (by omega)]
  refine ⟨?_, by simp only; omega⟩
  simp only
  unfold laws_heldSpareS
  obtain ⟨t, q1, q2⟩ := loopR_total (b := laws_heldSpareS_b1 ((List.range a.length).map (fun j : Nat => mkSpare (k + 3 * j))) k) (fun i s => s = k + 3 * (i : Int)) (k := ((List.range a.length).map (fun j : Nat => mkSpare (k + 3 * j))).length - 0) (i := 0) (s := k) (by simp) (by
    intro j u _ hj h2
    have hj2 : j < a.length := by simpa using hj
    have hg : ((List.range a.length).map (fun j : Nat => mkSpare (k + 3 * j))).getD j default = mkSpare (k + 3 * j) := by
      simp [List.getD_eq_getElem?_getD, hj2]
    subst h2
    refine ⟨k + 3 * ((j + 1 : Nat) : Int), ?_, rfl⟩
    have e1 : ∀ m : Int, 0 ≤ m → m < 4611686018427387904 → (m + 9223372036854775808) % 18446744073709551616 - 9223372036854775808 = m := by intro m _ _; omega
    simp only [laws_heldSpareS_b1]
    simp only [hg]
    simp only [mkSpare, IntKind.wrap_i64]
    (repeat rw [e1 _ (by omega) (by omega)])
    simp only [Int.add_assoc, Int.reduceAdd, bne_self_eq_false, cond_false, Except.ok.injEq]
    omega)
  rw [q1]
  simp only [q2]
  simp
end Go.Ab

namespace Go.Ab
open Go Go.Proofs
theorem laws_markEntryS_DD : DOk Try.prog (DD [(82, dP D_laws_markText)]) := DD_cons D_laws_markText_ok.e <| DD_nil _
def laws_markEntryS_b1 (a0 : (List Entry)) (a1 : Int) (i1 : Nat) (s1 : Int × List Entry) : Except (Int × (List Entry)) (Int × List Entry) :=
  .ok (IntKind.wrap .i64 ((IntKind.wrap .i64 ((IntKind.wrap .i64 (s1.1 + 1)) + 1)) + 1), s1.2.set i1 ({ Day := s1.1, Item := (laws_markText (IntKind.wrap .i64 (s1.1 + 1))), Amount := IntKind.wrap .i64 ((IntKind.wrap .i64 (s1.1 + 1)) + 1) : Entry }))

def laws_markEntryS (a0 : (List Entry)) (a1 : Int) : Int × (List Entry) :=
  (match loopR (laws_markEntryS_b1 a0 a1) (a0.length - 0) 0 (a1, a0) with | .error e => e | .ok s1 => (s1.1, s1.2))

theorem laws_markEntryS_den (a0 : (List Entry)) (a1 : Int) (hp0 : 0 ≤ a1) (hp1 : a1 ≤ 1152921504606846976) (hp2 : a0.length < 1099511627776) : DenM Try.prog 61 [ownL 66 3 eEntry a0, .int .i64 a1] (.int .i64 ((laws_markEntryS a0 a1).1)) [(ownL 66 3 eEntry ((laws_markEntryS a0 a1).2)), .any] := by
  generalize hR : laws_markEntryS a0 a1 = r
  unfold laws_markEntryS at hR
  refine den_introM (gb := [true, false]) G_ok Try.func61 (by kernel_rfl) rfl Try.ntmps61 (by rw [Try.results61]) (by simp) ?_
  intro c hL hc hk
  obtain ⟨hL0, hL1, _⟩ := hL
  have hw0 : a0.length < 9223372036854775808 := Nat.lt_succ_of_le (lens_ownL hL0).1
  have hw1 : ∀ v ∈ a0, bwEntry v := fun v hv => Entry_lens v ((lens_ownL hL0).2 v hv)
  clear hL0 hL1
  simp only [adEL, adE, adRL, adR, ownL, encL, sv, List.nil_append, List.append_nil, List.cons_append, List.length_cons, List.length_nil, pars, Nat.zero_add, Nat.reduceAdd] at hk ⊢
  refine AWP.seq ?_
  refine AWP.regS G_ok laws_markEntryS_DD hc (by kernel_rfl) (fun K hK => ?_); simp only [ea, gv, sv, D_laws_markText, reduceCtorEq, reduceIte, Nat.reduceBEq, Nat.reduceAdd, Nat.reduceEqDiff, Nat.reduceLT, Nat.reduceLeDiff, Nat.reduceMul, Nat.reduceSub, BEq.rfl, beq_self_eq_true, Int.reduceToNat]
  (refine hK _ ?_)
  clear hK K
  refine AWP.seq ?_
  refine AWP.seq ?_
  refine AWP.regS G_ok laws_markEntryS_DD hc (by kernel_rfl) (fun K hK => ?_); simp only [ea, gv, sv, D_laws_markText, reduceCtorEq, reduceIte, Nat.reduceBEq, Nat.reduceAdd, Nat.reduceEqDiff, Nat.reduceLT, Nat.reduceLeDiff, Nat.reduceMul, Nat.reduceSub, BEq.rfl, beq_self_eq_true, Int.reduceToNat]
  (refine hK _ ?_)
  clear hK K
  refine AWP.block ?_
  generalize hz1 : loopR (laws_markEntryS_b1 a0 a1) (a0.length - 0) 0 (a1, a0) = z1 at hR
  refine AWP.range (laws_markEntryS_b1 a0 a1) (fun i1 s1 => ⟨[(0, .ref 0 3 0 s1.2.length), (1, .int .i64 s1.1), (5, .int .i64 (i1 : Int))], [.arr 66 3 s1.2.length (fun j => eEntry (s1.2.getD j default))]⟩) (fun i1 s1 => s1.2.length = a0.length ∧ 0 ≤ s1.1 ∧ s1.1 ≤ a1 + 3 * i1) (a0.length) 0 (a1, a0) [0] hz1 (by (omega)) (by ((and_intros <;> simp only [ln] <;> omega))) (by (simp only [si, ea, gv, sv, hk, reduceCtorEq, reduceIte, Nat.reduceBEq, Nat.reduceAdd, Nat.reduceEqDiff, Nat.reduceLT, Nat.reduceLeDiff, Nat.reduceMul, Nat.reduceSub, BEq.rfl, beq_self_eq_true, Int.reduceToNat]; trivial)) ?_
  clear hz1
  intro i1 s1 hi1 hW1 hz1
  refine AWP.seq ?_
  refine AWP.seq ?_
  refine AWP.regS G_ok laws_markEntryS_DD hc (by kernel_rfl) (fun K hK => ?_); simp only [ea, gv, sv, D_laws_markText, reduceCtorEq, reduceIte, Nat.reduceBEq, Nat.reduceAdd, Nat.reduceEqDiff, Nat.reduceLT, Nat.reduceLeDiff, Nat.reduceMul, Nat.reduceSub, BEq.rfl, beq_self_eq_true, Int.reduceToNat]
  (refine hK _ ?_)
  clear hK K
  refine AWP.cond rfl (fun hb => ?_) (fun hb => ?_)
  · have hlt1 : i1 < a0.length := by ((simp only [ob, ln, bdv, sv] at *; omega))
    rw [loopR_lt hlt1] at hz1; simp only [laws_markEntryS_b1] at hz1
    refine AWP.skip ?_
    refine AWP.seq ?_
    refine AWP.block ?_
    refine AWP.seq ?_
    refine AWP.regS G_ok laws_markEntryS_DD hc (by kernel_rfl) (fun K hK => ?_); simp only [ea, gv, sv, D_laws_markText, reduceCtorEq, reduceIte, Nat.reduceBEq, Nat.reduceAdd, Nat.reduceEqDiff, Nat.reduceLT, Nat.reduceLeDiff, Nat.reduceMul, Nat.reduceSub, BEq.rfl, beq_self_eq_true, Int.reduceToNat]
    (refine ⟨by (omega), hK _ ?_⟩)
    clear hK K
    refine AWP.seq ?_
    refine AWP.regS G_ok laws_markEntryS_DD hc (by kernel_rfl) (fun K hK => ?_); simp only [ea, gv, sv, D_laws_markText, reduceCtorEq, reduceIte, Nat.reduceBEq, Nat.reduceAdd, Nat.reduceEqDiff, Nat.reduceLT, Nat.reduceLeDiff, Nat.reduceMul, Nat.reduceSub, BEq.rfl, beq_self_eq_true, Int.reduceToNat]
    (refine hK _ ?_)
    clear hK K
    refine AWP.seq ?_
    refine AWP.regS G_ok laws_markEntryS_DD hc (by kernel_rfl) (fun K hK => ?_); simp only [ea, gv, sv, D_laws_markText, reduceCtorEq, reduceIte, Nat.reduceBEq, Nat.reduceAdd, Nat.reduceEqDiff, Nat.reduceLT, Nat.reduceLeDiff, Nat.reduceMul, Nat.reduceSub, BEq.rfl, beq_self_eq_true, Int.reduceToNat]
    (refine ⟨by ((simp only [ob, ln, bdv, sv] at *; omega)), hK _ ?_⟩)
    clear hK K
    refine AWP.seq ?_
    refine AWP.regS G_ok laws_markEntryS_DD hc (by kernel_rfl) (fun K hK => ?_); simp only [ea, gv, sv, D_laws_markText, reduceCtorEq, reduceIte, Nat.reduceBEq, Nat.reduceAdd, Nat.reduceEqDiff, Nat.reduceLT, Nat.reduceLeDiff, Nat.reduceMul, Nat.reduceSub, BEq.rfl, beq_self_eq_true, Int.reduceToNat]
    (refine hK _ ?_)
    clear hK K
    refine AWP.seq ?_
    refine AWP.regS G_ok laws_markEntryS_DD hc (by kernel_rfl) (fun K hK => ?_); simp only [ea, gv, sv, D_laws_markText, reduceCtorEq, reduceIte, Nat.reduceBEq, Nat.reduceAdd, Nat.reduceEqDiff, Nat.reduceLT, Nat.reduceLeDiff, Nat.reduceMul, Nat.reduceSub, BEq.rfl, beq_self_eq_true, Int.reduceToNat]
    (refine ⟨by (omega), hK _ ?_⟩)
    clear hK K
    refine AWP.regS G_ok laws_markEntryS_DD hc (by kernel_rfl) (fun K hK => ?_); simp only [ea, gv, sv, D_laws_markText, reduceCtorEq, reduceIte, Nat.reduceBEq, Nat.reduceAdd, Nat.reduceEqDiff, Nat.reduceLT, Nat.reduceLeDiff, Nat.reduceMul, Nat.reduceSub, BEq.rfl, beq_self_eq_true, Int.reduceToNat]
    (refine hK _ ?_)
    clear hK K
    refine AWP.regS G_ok laws_markEntryS_DD hc (by kernel_rfl) (fun K hK => ?_); simp only [ea, gv, sv, D_laws_markText, reduceCtorEq, reduceIte, Nat.reduceBEq, Nat.reduceAdd, Nat.reduceEqDiff, Nat.reduceLT, Nat.reduceLeDiff, Nat.reduceMul, Nat.reduceSub, BEq.rfl, beq_self_eq_true, Int.reduceToNat]
    (refine hK _ ?_)
    clear hK K
    exact ⟨_, [0], hlt1, by ((and_intros <;> simp only [ob, ln] at * <;> omega)), hz1, by (simp only [si, ea, gv, sv, hk, reduceCtorEq, reduceIte, Nat.reduceBEq, Nat.reduceAdd, Nat.reduceEqDiff, Nat.reduceLT, Nat.reduceLeDiff, Nat.reduceMul, Nat.reduceSub, BEq.rfl, beq_self_eq_true, Int.reduceToNat]; (and_intros <;> first | trivial | (rw [IntKind.wrap_i64]; omega) | (simp only [ln]; done) | (intro j hj; simp only [pw, Bool.cond_eq_ite, Bool.and_eq_true, decide_eq_true_eq]; (try rw [subL_getD _ _ _ _ (by assumption)]); (try rw [clearL_getD _ _ _ _ (by omega)]); (repeat' split) <;> first | rfl | omega)))⟩
  · obtain rfl : i1 = a0.length := by ((simp only [ob, ln, bdv, sv] at *; omega))
    rw [loopR_ge (Nat.le_refl _)] at hz1; subst hz1; dsimp only at hR
    refine AWP.exit ?_; refine exitTo_here ?_
    refine AWP.seq ?_
    refine AWP.regS G_ok laws_markEntryS_DD hc (by kernel_rfl) (fun K hK => ?_); simp only [ea, gv, sv, D_laws_markText, reduceCtorEq, reduceIte, Nat.reduceBEq, Nat.reduceAdd, Nat.reduceEqDiff, Nat.reduceLT, Nat.reduceLeDiff, Nat.reduceMul, Nat.reduceSub, BEq.rfl, beq_self_eq_true, Int.reduceToNat]
    (refine hK _ ?_)
    clear hK K
    refine AWP.ret ?_
    subst hR
    (simp only [en, si, ea, gv, sv, hk, reduceCtorEq, reduceIte, Nat.reduceBEq, Nat.reduceAdd, Nat.reduceEqDiff, Nat.reduceLT, Nat.reduceLeDiff, Nat.reduceMul, Nat.reduceSub, BEq.rfl, beq_self_eq_true, Int.reduceToNat]; (and_intros <;> omega))

def D_laws_markEntryS : List AV → Option (AV × List AV × List Prop)
  | [x0, x1] => some (.int .i64 ((laws_markEntryS (rdL dEntry x0) (rdI x1)).1), [(ownL 66 3 eEntry ((laws_markEntryS (rdL dEntry x0) (rdI x1)).2)), .any], [wO 66 3 eEntry dEntry x0, wI .i64 x1, 0 ≤ (rdI x1), (rdI x1) ≤ 1152921504606846976, (rdL dEntry x0).length < 1099511627776])
  | _ => none
theorem D_laws_markEntryS_ok : OkM Try.prog 61 D_laws_markEntryS := by
  intro xs r outs ob h ho
  unfold D_laws_markEntryS at h
  split at h
  · simp only [Option.some.injEq, Prod.mk.injEq] at h
    obtain ⟨rfl, rfl, rfl⟩ := h
    obtain ⟨h0, h1, hp0, hp1, hp2, _⟩ := ho
    exact DenM.sim (laws_markEntryS_den _ _ hp0 hp1 hp2) (simOL_cons (wO_sim h0) <| simOL_cons (wI_sim h1).1 <| trivial)
  · cases h
end Go.Ab

namespace Go.Ab
open Go Go.Proofs
theorem laws_heldEntryS_DD : DOk Try.prog (DD [(82, dP D_laws_markText)]) := DD_cons D_laws_markText_ok.e <| DD_nil _
def laws_heldEntryS_b1 (a0 : (List Entry)) (a1 : Int) (i1 : Nat) (s1 : Int) : Except (Int) (Int) :=
  (bif (((a0.getD i1 default).Day) != s1) then .error (-1) else (bif (((a0.getD i1 default).Item) != (laws_markText (IntKind.wrap .i64 (s1 + 1)))) then .error (-1) else (bif (((a0.getD i1 default).Amount) != (IntKind.wrap .i64 ((IntKind.wrap .i64 (s1 + 1)) + 1))) then .error (-1) else .ok (IntKind.wrap .i64 ((IntKind.wrap .i64 ((IntKind.wrap .i64 (s1 + 1)) + 1)) + 1)))))

def laws_heldEntryS (a0 : (List Entry)) (a1 : Int) : Int :=
  (match loopR (laws_heldEntryS_b1 a0 a1) (a0.length - 0) 0 a1 with | .error e => e | .ok s1 => s1)

theorem laws_heldEntryS_den (a0 : (List Entry)) (a1 : Int) (hp0 : 0 ≤ a1) (hp1 : a1 ≤ 1152921504606846976) (hp2 : a0.length < 1099511627776) : Den Try.prog 100 [encL 3 eEntry a0, .int .i64 a1] (.int .i64 (laws_heldEntryS a0 a1)) := by
  generalize hR : laws_heldEntryS a0 a1 = r
  unfold laws_heldEntryS at hR
  refine den_intro G_ok Try.func100 (by kernel_rfl) rfl Try.ntmps100 (by rw [Try.results100]) (by simp) rfl ?_
  intro c hL hc hk
  obtain ⟨hL0, hL1, _⟩ := hL
  have hw0 : a0.length < 9223372036854775808 := Nat.lt_succ_of_le (lens_encL hL0).1
  have hw1 : ∀ v ∈ a0, bwEntry v := fun v hv => Entry_lens v ((lens_encL hL0).2 v hv)
  clear hL0 hL1
  simp only [pars, Nat.zero_add]
  refine AWP.seq ?_
  refine AWP.regS G_ok laws_heldEntryS_DD hc (by kernel_rfl) (fun K hK => ?_); simp only [ea, gv, sv, D_laws_markText, reduceCtorEq, reduceIte, Nat.reduceBEq, Nat.reduceAdd, Nat.reduceEqDiff, Nat.reduceLT, Nat.reduceLeDiff, Nat.reduceMul, Nat.reduceSub, BEq.rfl, beq_self_eq_true, Int.reduceToNat]
  (refine hK _ ?_)
  clear hK K
  refine AWP.seq ?_
  refine AWP.seq ?_
  refine AWP.regS G_ok laws_heldEntryS_DD hc (by kernel_rfl) (fun K hK => ?_); simp only [ea, gv, sv, D_laws_markText, reduceCtorEq, reduceIte, Nat.reduceBEq, Nat.reduceAdd, Nat.reduceEqDiff, Nat.reduceLT, Nat.reduceLeDiff, Nat.reduceMul, Nat.reduceSub, BEq.rfl, beq_self_eq_true, Int.reduceToNat]
  (refine hK _ ?_)
  clear hK K
  refine AWP.block ?_
  generalize hz1 : loopR (laws_heldEntryS_b1 a0 a1) (a0.length - 0) 0 a1 = z1 at hR
  refine AWP.range (laws_heldEntryS_b1 a0 a1) (fun i1 s1 => ⟨[(0, encL 3 eEntry a0), (1, .int .i64 s1), (5, .int .i64 (i1 : Int))], []⟩) (fun i1 s1 => 0 ≤ s1 ∧ s1 ≤ a1 + 3 * i1) (a0.length) 0 a1 [] hz1 (by (omega)) (by ((and_intros <;> simp only [ob, ln] at * <;> omega))) (by (simp only [si, ea, gv, sv, hk, reduceCtorEq, reduceIte, Nat.reduceBEq, Nat.reduceAdd, Nat.reduceEqDiff, Nat.reduceLT, Nat.reduceLeDiff, Nat.reduceMul, Nat.reduceSub, BEq.rfl, beq_self_eq_true, Int.reduceToNat]; trivial)) ?_
  clear hz1
  intro i1 s1 hi1 hW1 hz1
  refine AWP.seq ?_
  refine AWP.seq ?_
  refine AWP.regS G_ok laws_heldEntryS_DD hc (by kernel_rfl) (fun K hK => ?_); simp only [ea, gv, sv, D_laws_markText, reduceCtorEq, reduceIte, Nat.reduceBEq, Nat.reduceAdd, Nat.reduceEqDiff, Nat.reduceLT, Nat.reduceLeDiff, Nat.reduceMul, Nat.reduceSub, BEq.rfl, beq_self_eq_true, Int.reduceToNat]
  (refine hK _ ?_)
  clear hK K
  refine AWP.cond rfl (fun hb => ?_) (fun hb => ?_)
  · have hlt1 : i1 < a0.length := by ((simp only [ob, ln, bdv, sv] at *; omega))
    rw [loopR_lt hlt1] at hz1; simp only [laws_heldEntryS_b1] at hz1
    refine AWP.skip ?_
    refine AWP.seq ?_
    refine AWP.block ?_
    refine AWP.seq ?_
    refine AWP.seq ?_
    refine AWP.regS G_ok laws_heldEntryS_DD hc (by kernel_rfl) (fun K hK => ?_); simp only [ea, gv, sv, D_laws_markText, reduceCtorEq, reduceIte, Nat.reduceBEq, Nat.reduceAdd, Nat.reduceEqDiff, Nat.reduceLT, Nat.reduceLeDiff, Nat.reduceMul, Nat.reduceSub, BEq.rfl, beq_self_eq_true, Int.reduceToNat]
    (refine ⟨by (omega), hK _ ?_⟩)
    clear hK K
    refine AWP.cond rfl (fun hb => ?_) (fun hb => ?_)
    · (simp only [hb, cond_true] at hz1)
      refine AWP.seq ?_
      refine AWP.regS G_ok laws_heldEntryS_DD hc (by kernel_rfl) (fun K hK => ?_); simp only [ea, gv, sv, D_laws_markText, reduceCtorEq, reduceIte, Nat.reduceBEq, Nat.reduceAdd, Nat.reduceEqDiff, Nat.reduceLT, Nat.reduceLeDiff, Nat.reduceMul, Nat.reduceSub, BEq.rfl, beq_self_eq_true, Int.reduceToNat]
      (refine hK _ ?_)
      clear hK K
      refine AWP.ret ?_
      subst hz1
      dsimp only at hR
      subst hR
      (simp only [en, si, ea, gv, sv, hk, reduceCtorEq, reduceIte, Nat.reduceBEq, Nat.reduceAdd, Nat.reduceEqDiff, Nat.reduceLT, Nat.reduceLeDiff, Nat.reduceMul, Nat.reduceSub, BEq.rfl, beq_self_eq_true, Int.reduceToNat]; done)
    · (simp only [hb, cond_false] at hz1)
      refine AWP.skip ?_
      refine AWP.seq ?_
      refine AWP.regS G_ok laws_heldEntryS_DD hc (by kernel_rfl) (fun K hK => ?_); simp only [ea, gv, sv, D_laws_markText, reduceCtorEq, reduceIte, Nat.reduceBEq, Nat.reduceAdd, Nat.reduceEqDiff, Nat.reduceLT, Nat.reduceLeDiff, Nat.reduceMul, Nat.reduceSub, BEq.rfl, beq_self_eq_true, Int.reduceToNat]
      (refine hK _ ?_)
      clear hK K
      refine AWP.seq ?_
      refine AWP.seq ?_
      refine AWP.regD mixed G_ok laws_heldEntryS_DD hc 7 (by kernel_rfl) (by kernel_rfl) (fun K hK => ?_); simp only [ea, gv, sv, D_laws_markText, reduceCtorEq, reduceIte, Nat.reduceBEq, Nat.reduceAdd, Nat.reduceEqDiff, Nat.reduceLT, Nat.reduceLeDiff, Nat.reduceMul, Nat.reduceSub, BEq.rfl, beq_self_eq_true, Int.reduceToNat]
      (refine ⟨by ((simp only [ob, ln, bdv, sv] at *; omega)), hK _ ?_⟩)
      clear hK K
      refine AWP.cond rfl (fun hb => ?_) (fun hb => ?_)
      · (simp only [hb, cond_true] at hz1)
        refine AWP.seq ?_
        refine AWP.regS G_ok laws_heldEntryS_DD hc (by kernel_rfl) (fun K hK => ?_); simp only [ea, gv, sv, D_laws_markText, reduceCtorEq, reduceIte, Nat.reduceBEq, Nat.reduceAdd, Nat.reduceEqDiff, Nat.reduceLT, Nat.reduceLeDiff, Nat.reduceMul, Nat.reduceSub, BEq.rfl, beq_self_eq_true, Int.reduceToNat]
        (refine hK _ ?_)
        clear hK K
        refine AWP.ret ?_
        subst hz1
        dsimp only at hR
        subst hR
        (simp only [en, si, ea, gv, sv, hk, reduceCtorEq, reduceIte, Nat.reduceBEq, Nat.reduceAdd, Nat.reduceEqDiff, Nat.reduceLT, Nat.reduceLeDiff, Nat.reduceMul, Nat.reduceSub, BEq.rfl, beq_self_eq_true, Int.reduceToNat]; done)
      · (simp only [hb, cond_false] at hz1)
        refine AWP.skip ?_
        refine AWP.seq ?_
        refine AWP.regS G_ok laws_heldEntryS_DD hc (by kernel_rfl) (fun K hK => ?_); simp only [ea, gv, sv, D_laws_markText, reduceCtorEq, reduceIte, Nat.reduceBEq, Nat.reduceAdd, Nat.reduceEqDiff, Nat.reduceLT, Nat.reduceLeDiff, Nat.reduceMul, Nat.reduceSub, BEq.rfl, beq_self_eq_true, Int.reduceToNat]
        (refine hK _ ?_)
        clear hK K
        refine AWP.seq ?_
        refine AWP.seq ?_
        refine AWP.regS G_ok laws_heldEntryS_DD hc (by kernel_rfl) (fun K hK => ?_); simp only [ea, gv, sv, D_laws_markText, reduceCtorEq, reduceIte, Nat.reduceBEq, Nat.reduceAdd, Nat.reduceEqDiff, Nat.reduceLT, Nat.reduceLeDiff, Nat.reduceMul, Nat.reduceSub, BEq.rfl, beq_self_eq_true, Int.reduceToNat]
        (refine ⟨by (omega), hK _ ?_⟩)
        clear hK K
        refine AWP.cond rfl (fun hb => ?_) (fun hb => ?_)
        · (simp only [hb, cond_true] at hz1)
          refine AWP.seq ?_
          refine AWP.regS G_ok laws_heldEntryS_DD hc (by kernel_rfl) (fun K hK => ?_); simp only [ea, gv, sv, D_laws_markText, reduceCtorEq, reduceIte, Nat.reduceBEq, Nat.reduceAdd, Nat.reduceEqDiff, Nat.reduceLT, Nat.reduceLeDiff, Nat.reduceMul, Nat.reduceSub, BEq.rfl, beq_self_eq_true, Int.reduceToNat]
          (refine hK _ ?_)
          clear hK K
          refine AWP.ret ?_
          subst hz1
          dsimp only at hR
          subst hR
          (simp only [en, si, ea, gv, sv, hk, reduceCtorEq, reduceIte, Nat.reduceBEq, Nat.reduceAdd, Nat.reduceEqDiff, Nat.reduceLT, Nat.reduceLeDiff, Nat.reduceMul, Nat.reduceSub, BEq.rfl, beq_self_eq_true, Int.reduceToNat]; done)
        · (simp only [hb, cond_false] at hz1)
          refine AWP.skip ?_
          refine AWP.regS G_ok laws_heldEntryS_DD hc (by kernel_rfl) (fun K hK => ?_); simp only [ea, gv, sv, D_laws_markText, reduceCtorEq, reduceIte, Nat.reduceBEq, Nat.reduceAdd, Nat.reduceEqDiff, Nat.reduceLT, Nat.reduceLeDiff, Nat.reduceMul, Nat.reduceSub, BEq.rfl, beq_self_eq_true, Int.reduceToNat]
          (refine hK _ ?_)
          clear hK K
          refine AWP.regS G_ok laws_heldEntryS_DD hc (by kernel_rfl) (fun K hK => ?_); simp only [ea, gv, sv, D_laws_markText, reduceCtorEq, reduceIte, Nat.reduceBEq, Nat.reduceAdd, Nat.reduceEqDiff, Nat.reduceLT, Nat.reduceLeDiff, Nat.reduceMul, Nat.reduceSub, BEq.rfl, beq_self_eq_true, Int.reduceToNat]
          (refine hK _ ?_)
          clear hK K
          exact ⟨_, [], hlt1, by ((and_intros <;> simp only [ob, ln] at * <;> omega)), hz1, by (simp only [si, ea, gv, sv, hk, reduceCtorEq, reduceIte, Nat.reduceBEq, Nat.reduceAdd, Nat.reduceEqDiff, Nat.reduceLT, Nat.reduceLeDiff, Nat.reduceMul, Nat.reduceSub, BEq.rfl, beq_self_eq_true, Int.reduceToNat]; (and_intros <;> first | trivial | (rw [IntKind.wrap_i64]; omega)))⟩
  · obtain rfl : i1 = a0.length := by ((simp only [ob, ln, bdv, sv] at *; omega))
    rw [loopR_ge (Nat.le_refl _)] at hz1; subst hz1; dsimp only at hR
    refine AWP.exit ?_; refine exitTo_here ?_
    refine AWP.seq ?_
    refine AWP.regS G_ok laws_heldEntryS_DD hc (by kernel_rfl) (fun K hK => ?_); simp only [ea, gv, sv, D_laws_markText, reduceCtorEq, reduceIte, Nat.reduceBEq, Nat.reduceAdd, Nat.reduceEqDiff, Nat.reduceLT, Nat.reduceLeDiff, Nat.reduceMul, Nat.reduceSub, BEq.rfl, beq_self_eq_true, Int.reduceToNat]
    (refine hK _ ?_)
    clear hK K
    refine AWP.ret ?_
    subst hR
    (simp only [en, si, ea, gv, sv, hk, reduceCtorEq, reduceIte, Nat.reduceBEq, Nat.reduceAdd, Nat.reduceEqDiff, Nat.reduceLT, Nat.reduceLeDiff, Nat.reduceMul, Nat.reduceSub, BEq.rfl, beq_self_eq_true, Int.reduceToNat]; done)

def D_laws_heldEntryS : DF
  | [x0, x1] => some (.int .i64 (laws_heldEntryS (rdL dEntry x0) (rdI x1)), false, [wL 3 eEntry dEntry x0, wI .i64 x1, 0 ≤ (rdI x1), (rdI x1) ≤ 1152921504606846976, (rdL dEntry x0).length < 1099511627776])
  | _ => none
theorem D_laws_heldEntryS_ok : OkD Try.prog 100 D_laws_heldEntryS := by
  intro xs r z ob h ho
  unfold D_laws_heldEntryS at h
  split at h
  · simp only [Option.some.injEq, Prod.mk.injEq] at h
    obtain ⟨rfl, rfl, rfl⟩ := h
    obtain ⟨h0, h1, hp0, hp1, hp2, _⟩ := ho
    exact Den.sim (laws_heldEntryS_den _ _ hp0 hp1 hp2) (simOL_cons (wL_sim h0).1 <| simOL_cons (wI_sim h1).1 <| trivial) (noIdL_cons (wL_sim h0).2 <| noIdL_cons (wI_sim h1).2 <| rfl) rfl
  · cases h
end Go.Ab

namespace Go.Ab
open Go Go.Proofs
def mkEntry (v : Int) : Entry := ⟨v, (laws_markText (v + 1)), (v + 2)⟩
theorem laws_markEntryS_len (a : List Entry) (k : Int) : (laws_markEntryS a k).2.length = a.length := by
  unfold laws_markEntryS
  obtain ⟨t, h1, h2⟩ := loopR_total (b := laws_markEntryS_b1 a k) (fun _ s => s.2.length = a.length) (k := a.length - 0) (i := 0) (s := (k, a)) rfl (by
    intro j u _ _ h
    exact ⟨_, rfl, by simpa using h⟩)
  rw [h1]
  exact h2
theorem laws_markEntryS_sub (a : List Entry) (k : Int) : subL (laws_markEntryS a k).2 0 a.length = (laws_markEntryS a k).2 := by
  rw [← laws_markEntryS_len a k]; exact subL_all _
theorem laws_markEntryS_eq (a : List Entry) (k : Int) (h0 : 0 ≤ k) (h1 : k + 3 * a.length < 4611686018427387904) : laws_markEntryS a k = (k + 3 * a.length, (List.range a.length).map (fun j : Nat => mkEntry (k + 3 * j))) := by
  unfold laws_markEntryS
  obtain ⟨t, q1, q2, q3, q4⟩ := loopR_total (b := laws_markEntryS_b1 a k) (fun i s => s.1 = k + 3 * i ∧ s.2.length = a.length ∧ ∀ j, j < i → s.2.getD j default = mkEntry (k + 3 * j)) (k := a.length - 0) (i := 0) (s := (k, a)) ⟨by simp, rfl, by intro j hj; omega⟩ (by
    intro j u _ hj ⟨h2, h3, h4⟩
    have w1 : ∀ m : Int, 0 ≤ m → m < 4611686018427387904 → IntKind.wrap .i64 (m + 1) = m + 1 := by intro m _ _; rw [IntKind.wrap_i64]; omega
    have w0 : ∀ m : Int, 0 ≤ m → m < 4611686018427387904 → IntKind.wrap .i64 m = m := by intro m _ _; rw [IntKind.wrap_i64]; omega
    refine ⟨_, rfl, ?_, ?_, ?_⟩
    · simp only [h2, IntKind.wrap_i64]; omega
    · simpa using h3
    · intro q hq
      simp only
      rw [lgetD_set]
      by_cases h : q = j
      · subst h
        rw [if_pos ⟨rfl, by omega⟩, h2]
        simp only [mkEntry]
        all_goals (try rw [Entry.mk.injEq])
        all_goals (and_intros <;> first | rfl | trivial | (simp only [IntKind.wrap_i64]; omega) | (congr 1; (simp only [IntKind.wrap_i64]; omega)))
      · rw [if_neg (fun hh => h hh.1)]
        exact h4 q (by omega))
  rw [q1]
  simp only [Nat.zero_add, Nat.sub_zero] at q2 q4
  simp only [q2]
  congr 1
  apply getD_ext
  · simpa using q3
  · intro i hi
    rw [q4 i (by omega)]
    simp [List.getD_eq_getElem?_getD]
    rw [List.getElem?_range (by omega)]
    rfl
theorem laws_markEntryS_k (a : List Entry) (k : Int) (h0 : 0 ≤ k) (h1 : k ≤ 1152921504606846976) (hl : a.length < 1099511627776) : (laws_markEntryS a k).1 = k + 3 * a.length := by
  rw [laws_markEntryS_eq a k h0 (by omega)]
theorem laws_heldEntryS_mark (a : List Entry) (k : Int) (h0 : 0 ≤ k) (hk : k ≤ 1152921504606846976) (h1 : a.length < 1099511627776) : laws_heldEntryS (laws_markEntryS a k).2 k = (laws_markEntryS a k).1 ∧ ¬ (laws_markEntryS a k).1 < 0 := by
  rw [laws_markEntryS_eq a k h0 (by omega)]
  refine ⟨?_, by simp only; omega⟩
  simp only
  unfold laws_heldEntryS
  obtain ⟨t, q1, q2⟩ := loopR_total (b := laws_heldEntryS_b1 ((List.range a.length).map (fun j : Nat => mkEntry (k + 3 * j))) k) (fun i s => s = k + 3 * (i : Int)) (k := ((List.range a.length).map (fun j : Nat => mkEntry (k + 3 * j))).length - 0) (i := 0) (s := k) (by simp) (by
    intro j u _ hj h2
    have hj2 : j < a.length := by simpa using hj
    have hg : ((List.range a.length).map (fun j : Nat => mkEntry (k + 3 * j))).getD j default = mkEntry (k + 3 * j) := by
      simp [List.getD_eq_getElem?_getD, hj2]
    subst h2
    refine ⟨k + 3 * ((j + 1 : Nat) : Int), ?_, rfl⟩
    have e1 : ∀ m : Int, 0 ≤ m → m < 4611686018427387904 → (m + 9223372036854775808) % 18446744073709551616 - 9223372036854775808 = m := by intro m _ _; omega
    simp only [laws_heldEntryS_b1]
    simp only [hg]
    simp only [mkEntry, IntKind.wrap_i64]
    (repeat rw [e1 _ (by omega) (by omega)])
    simp only [Int.add_assoc, Int.reduceAdd, bne_self_eq_false, cond_false, Except.ok.injEq]
    omega)
  rw [q1]
  simp only [q2]
  simp
end Go.Ab

namespace Go.Ab
open Go Go.Proofs
theorem laws_markStore_DD : DOk Try.prog (DD [(61, dM [true, false] D_laws_markEntryS), (98, dM [true, false] D_laws_markSpareS)]) := DD_cons D_laws_markEntryS_ok.e <| DD_cons D_laws_markSpareS_ok.e <| DD_nil _
def laws_markStore (a0 : Store) (a1 : Int) : Int × Store :=
  (((laws_markEntryS a0.Entries ((laws_markSpareS a0.Spares a1).1)).1), { a0 with Spares := (laws_markSpareS a0.Spares a1).2, Entries := (laws_markEntryS a0.Entries ((laws_markSpareS a0.Spares a1).1)).2 })

theorem laws_markStore_den (a0 : Store) (a1 : Int) (hp0 : 0 ≤ a1) (hp1 : a1 ≤ 1073741824) (hp2 : a0.Spares.length < 1099511627776) (hp3 : a0.Entries.length < 1099511627776) : DenM Try.prog 37 [.agg (eStoreO a0), .int .i64 a1] (.int .i64 ((laws_markStore a0 a1).1)) [(.agg [(ownL 63 3 eSpare (((laws_markStore a0 a1).2).Spares)), (ownL 66 3 eEntry (((laws_markStore a0 a1).2).Entries))]), .any] := by
  generalize hR : laws_markStore a0 a1 = r
  unfold laws_markStore at hR
  refine den_introM (gb := [true, false]) G_ok Try.func37 (by kernel_rfl) rfl Try.ntmps37 (by rw [Try.results37]) (by simp) ?_
  intro c hL hc hk
  obtain ⟨hL0, hL1, _⟩ := hL
  have hw0 : bwStore a0 := Store_lensO a0 hL0
  clear hL0 hL1
  simp only [adEL, adE, adRL, adR, ownL, encL, sv, List.nil_append, List.append_nil, List.cons_append, List.length_cons, List.length_nil, pars, Nat.zero_add, Nat.reduceAdd] at hk ⊢
  have hk1 := laws_markSpareS_k a0.Spares a1 hp0 (by omega) hp2
  refine AWP.seq ?_
  refine AWP.regS G_ok laws_markStore_DD hc (by kernel_rfl) (fun K hK => ?_); simp only [ea, absV, absVL, gv, sv, laws_markEntryS_sub, laws_markSpareS_sub, D_laws_markEntryS, D_laws_markSpareS, reduceCtorEq, reduceIte, Nat.reduceBEq, Nat.reduceAdd, Nat.reduceEqDiff, Nat.reduceLT, Nat.reduceLeDiff, Nat.reduceMul, Nat.reduceSub, BEq.rfl, beq_self_eq_true, Int.reduceToNat]
  (refine hK _ ?_)
  clear hK K
  refine AWP.seq ?_
  refine AWP.regS G_ok laws_markStore_DD hc (by kernel_rfl) (fun K hK => ?_); simp only [ea, absV, absVL, gv, sv, laws_markEntryS_sub, laws_markSpareS_sub, D_laws_markEntryS, D_laws_markSpareS, reduceCtorEq, reduceIte, Nat.reduceBEq, Nat.reduceAdd, Nat.reduceEqDiff, Nat.reduceLT, Nat.reduceLeDiff, Nat.reduceMul, Nat.reduceSub, BEq.rfl, beq_self_eq_true, Int.reduceToNat]
  (refine ⟨by (((try clear hK K); (repeat' (apply And.intro)) <;> first | trivial | omega)), hK _ ?_⟩)
  clear hK K
  refine AWP.seq ?_
  refine AWP.regS G_ok laws_markStore_DD hc (by kernel_rfl) (fun K hK => ?_); simp only [ea, absV, absVL, gv, sv, laws_markEntryS_sub, laws_markSpareS_sub, D_laws_markEntryS, D_laws_markSpareS, reduceCtorEq, reduceIte, Nat.reduceBEq, Nat.reduceAdd, Nat.reduceEqDiff, Nat.reduceLT, Nat.reduceLeDiff, Nat.reduceMul, Nat.reduceSub, BEq.rfl, beq_self_eq_true, Int.reduceToNat]
  (refine ⟨by (((try clear hK K); (repeat' (apply And.intro)) <;> first | trivial | omega)), hK _ ?_⟩)
  clear hK K
  refine AWP.seq ?_
  refine AWP.regS G_ok laws_markStore_DD hc (by kernel_rfl) (fun K hK => ?_); simp only [ea, absV, absVL, gv, sv, laws_markEntryS_sub, laws_markSpareS_sub, D_laws_markEntryS, D_laws_markSpareS, reduceCtorEq, reduceIte, Nat.reduceBEq, Nat.reduceAdd, Nat.reduceEqDiff, Nat.reduceLT, Nat.reduceLeDiff, Nat.reduceMul, Nat.reduceSub, BEq.rfl, beq_self_eq_true, Int.reduceToNat]
  (refine hK _ ?_)
  clear hK K
  refine AWP.ret ?_
  subst hR
  (simp only [en, si, ea, gv, sv, hk, reduceCtorEq, reduceIte, Nat.reduceBEq, Nat.reduceAdd, Nat.reduceEqDiff, Nat.reduceLT, Nat.reduceLeDiff, Nat.reduceMul, Nat.reduceSub, BEq.rfl, beq_self_eq_true, Int.reduceToNat]; (and_intros <;> (simp only [ob, ln, bdv, laws_markEntryS_len, laws_markSpareS_len, sv] at *; done)))

def D_laws_markStore : List AV → Option (AV × List AV × List Prop)
  | [x0, x1] => some (.int .i64 ((laws_markStore (rdG dStore x0) (rdI x1)).1), [(.agg [(ownL 63 3 eSpare (((laws_markStore (rdG dStore x0) (rdI x1)).2).Spares)), (ownL 66 3 eEntry (((laws_markStore (rdG dStore x0) (rdI x1)).2).Entries))]), .any], [wGO eStoreO dStore x0, wI .i64 x1, 0 ≤ (rdI x1), (rdI x1) ≤ 1073741824, (rdG dStore x0).Spares.length < 1099511627776, (rdG dStore x0).Entries.length < 1099511627776])
  | _ => none
theorem D_laws_markStore_ok : OkM Try.prog 37 D_laws_markStore := by
  intro xs r outs ob h ho
  unfold D_laws_markStore at h
  split at h
  · simp only [Option.some.injEq, Prod.mk.injEq] at h
    obtain ⟨rfl, rfl, rfl⟩ := h
    obtain ⟨h0, h1, hp0, hp1, hp2, hp3, _⟩ := ho
    exact DenM.sim (laws_markStore_den _ _ hp0 hp1 hp2 hp3) (simOL_cons (wGO_sim h0) <| simOL_cons (wI_sim h1).1 <| trivial)
  · cases h
end Go.Ab

namespace Go.Ab
open Go Go.Proofs
theorem spec_ShortSpares_DD : DOk Try.prog (DD [(101, dP D_spec_l03Day), (63, dP D_spec_l29Ok), (86, dP D_spec_l29Stock)]) := DD_cons D_spec_l03Day_ok.e <| DD_cons D_spec_l29Ok_ok.e <| DD_cons D_spec_l29Stock_ok.e <| DD_nil _
def spec_ShortSpares_b1 (a0 : Store) (a1 : Int) (i1 : Nat) (s1 : List (List UInt8)) : Except (((List (List UInt8)) × Int)) (List (List UInt8)) :=
  (bif decide (((spec_l29Stock a0 ((a0.Spares.getD i1 default).Name) a1).1) < ((a0.Spares.getD i1 default).Least)) then .ok (s1 ++ [(a0.Spares.getD i1 default).Name]) else .ok s1)

def spec_ShortSpares (a0 : Store) (a1 : Int) : ((List (List UInt8)) × Int) :=
  (bif (!(spec_l29Ok a0)) then ([], 1) else (bif (!(spec_l03Day a1)) then ([], 2) else (match loopR (spec_ShortSpares_b1 a0 a1) (a0.Spares.length - 0) 0 ([] : List (List UInt8)) with | .error e => e | .ok s1 => (s1, 0))))

theorem spec_ShortSpares_den (a0 : Store) (a1 : Int) (hb0 : bdStore a0) : Den Try.prog 39 [.agg (eStore a0), .int .i64 a1] (.tup [ownL 9 1 eS ((spec_ShortSpares a0 a1).1), .int .i64 ((spec_ShortSpares a0 a1).2)]) := by
  generalize hR : spec_ShortSpares a0 a1 = r
  unfold spec_ShortSpares at hR
  refine den_intro G_ok Try.func39 (by kernel_rfl) rfl Try.ntmps39 (by rw [Try.results39]) (by simp) rfl ?_
  intro c hL hc hk
  obtain ⟨hL0, hL1, _⟩ := hL
  have hw0 : bwStore a0 := Store_lens a0 hL0
  clear hL0 hL1
  simp only [pars, Nat.zero_add]
  refine AWP.seq ?_
  refine AWP.regS G_ok spec_ShortSpares_DD hc (by kernel_rfl) (fun K hK => ?_); simp only [ea, gv, sv, D_spec_l03Day, D_spec_l29Ok, D_spec_l29Stock, reduceCtorEq, reduceIte, Nat.reduceBEq, Nat.reduceAdd, Nat.reduceEqDiff, Nat.reduceLT, Nat.reduceLeDiff, Nat.reduceMul, Nat.reduceSub, BEq.rfl, beq_self_eq_true, Int.reduceToNat]
  (refine hK _ ?_)
  clear hK K
  refine AWP.seq ?_
  refine AWP.seq ?_
  refine AWP.regS G_ok spec_ShortSpares_DD hc (by kernel_rfl) (fun K hK => ?_); simp only [ea, gv, sv, D_spec_l03Day, D_spec_l29Ok, D_spec_l29Stock, reduceCtorEq, reduceIte, Nat.reduceBEq, Nat.reduceAdd, Nat.reduceEqDiff, Nat.reduceLT, Nat.reduceLeDiff, Nat.reduceMul, Nat.reduceSub, BEq.rfl, beq_self_eq_true, Int.reduceToNat]
  (refine hK _ ?_)
  clear hK K
  refine AWP.cond rfl (fun hb => ?_) (fun hb => ?_)
  · (simp only [hb, cond_true] at hR)
    refine AWP.seq ?_
    refine AWP.regS G_ok spec_ShortSpares_DD hc (by kernel_rfl) (fun K hK => ?_); simp only [ea, gv, sv, D_spec_l03Day, D_spec_l29Ok, D_spec_l29Stock, reduceCtorEq, reduceIte, Nat.reduceBEq, Nat.reduceAdd, Nat.reduceEqDiff, Nat.reduceLT, Nat.reduceLeDiff, Nat.reduceMul, Nat.reduceSub, BEq.rfl, beq_self_eq_true, Int.reduceToNat]
    (refine hK _ ?_)
    clear hK K
    refine AWP.ret ?_
    subst hR
    (simp only [en, si, ea, gv, sv, hk, reduceCtorEq, reduceIte, Nat.reduceBEq, Nat.reduceAdd, Nat.reduceEqDiff, Nat.reduceLT, Nat.reduceLeDiff, Nat.reduceMul, Nat.reduceSub, BEq.rfl, beq_self_eq_true, Int.reduceToNat]; done)
  · (simp only [hb, cond_false] at hR)
    refine AWP.skip ?_
    refine AWP.seq ?_
    refine AWP.seq ?_
    refine AWP.regS G_ok spec_ShortSpares_DD hc (by kernel_rfl) (fun K hK => ?_); simp only [ea, gv, sv, D_spec_l03Day, D_spec_l29Ok, D_spec_l29Stock, reduceCtorEq, reduceIte, Nat.reduceBEq, Nat.reduceAdd, Nat.reduceEqDiff, Nat.reduceLT, Nat.reduceLeDiff, Nat.reduceMul, Nat.reduceSub, BEq.rfl, beq_self_eq_true, Int.reduceToNat]
    (refine hK _ ?_)
    clear hK K
    refine AWP.cond rfl (fun hb => ?_) (fun hb => ?_)
    · (simp only [hb, cond_true] at hR)
      refine AWP.seq ?_
      refine AWP.regS G_ok spec_ShortSpares_DD hc (by kernel_rfl) (fun K hK => ?_); simp only [ea, gv, sv, D_spec_l03Day, D_spec_l29Ok, D_spec_l29Stock, reduceCtorEq, reduceIte, Nat.reduceBEq, Nat.reduceAdd, Nat.reduceEqDiff, Nat.reduceLT, Nat.reduceLeDiff, Nat.reduceMul, Nat.reduceSub, BEq.rfl, beq_self_eq_true, Int.reduceToNat]
      (refine hK _ ?_)
      clear hK K
      refine AWP.ret ?_
      subst hR
      (simp only [en, si, ea, gv, sv, hk, reduceCtorEq, reduceIte, Nat.reduceBEq, Nat.reduceAdd, Nat.reduceEqDiff, Nat.reduceLT, Nat.reduceLeDiff, Nat.reduceMul, Nat.reduceSub, BEq.rfl, beq_self_eq_true, Int.reduceToNat]; done)
    · (simp only [hb, cond_false] at hR)
      refine AWP.skip ?_
      refine AWP.seq ?_
      refine AWP.regS G_ok spec_ShortSpares_DD hc (by kernel_rfl) (fun K hK => ?_); simp only [ea, gv, sv, D_spec_l03Day, D_spec_l29Ok, D_spec_l29Stock, reduceCtorEq, reduceIte, Nat.reduceBEq, Nat.reduceAdd, Nat.reduceEqDiff, Nat.reduceLT, Nat.reduceLeDiff, Nat.reduceMul, Nat.reduceSub, BEq.rfl, beq_self_eq_true, Int.reduceToNat]
      (refine hK _ ?_)
      clear hK K
      refine AWP.seq ?_
      refine AWP.seq ?_
      refine AWP.regS G_ok spec_ShortSpares_DD hc (by kernel_rfl) (fun K hK => ?_); simp only [ea, gv, sv, D_spec_l03Day, D_spec_l29Ok, D_spec_l29Stock, reduceCtorEq, reduceIte, Nat.reduceBEq, Nat.reduceAdd, Nat.reduceEqDiff, Nat.reduceLT, Nat.reduceLeDiff, Nat.reduceMul, Nat.reduceSub, BEq.rfl, beq_self_eq_true, Int.reduceToNat]
      (refine hK _ ?_)
      clear hK K
      refine AWP.block ?_
      generalize hz1 : loopR (spec_ShortSpares_b1 a0 a1) (a0.Spares.length - 0) 0 ([] : List (List UInt8)) = z1 at hR
      refine AWP.range (spec_ShortSpares_b1 a0 a1) (fun i1 s1 => ⟨[(1, .int .i64 a1), (2, .ptr 0 0), (6, .ref 1 1 0 s1.length), (7, .int .i64 (i1 : Int))], [.box [encL 3 eSpare a0.Spares, encL 3 eEntry a0.Entries], .arr 9 1 s1.length (fun j => eS (s1.getD j default))]⟩) (fun i1 s1 => s1.length ≤ ([] : List (List UInt8)).length + 1 * i1) (a0.Spares.length) 0 ([] : List (List UInt8)) [0, 1] hz1 (by (omega)) (by (trivial)) (by (simp only [si, ea, gv, sv, hk, reduceCtorEq, reduceIte, Nat.reduceBEq, Nat.reduceAdd, Nat.reduceEqDiff, Nat.reduceLT, Nat.reduceLeDiff, Nat.reduceMul, Nat.reduceSub, BEq.rfl, beq_self_eq_true, Int.reduceToNat]; trivial)) ?_
      clear hz1
      intro i1 s1 hi1 hW1 hz1
      refine AWP.seq ?_
      refine AWP.seq ?_
      refine AWP.regS G_ok spec_ShortSpares_DD hc (by kernel_rfl) (fun K hK => ?_); simp only [ea, gv, sv, D_spec_l03Day, D_spec_l29Ok, D_spec_l29Stock, reduceCtorEq, reduceIte, Nat.reduceBEq, Nat.reduceAdd, Nat.reduceEqDiff, Nat.reduceLT, Nat.reduceLeDiff, Nat.reduceMul, Nat.reduceSub, BEq.rfl, beq_self_eq_true, Int.reduceToNat]
      (refine hK _ ?_)
      clear hK K
      refine AWP.cond rfl (fun hb => ?_) (fun hb => ?_)
      · have hlt1 : i1 < a0.Spares.length := by ((simp only [ob, ln, bdv, sv] at *; omega))
        rw [loopR_lt hlt1] at hz1; simp only [spec_ShortSpares_b1] at hz1
        refine AWP.skip ?_
        refine AWP.seq ?_
        refine AWP.block ?_
        refine AWP.seq ?_
        refine AWP.regS G_ok spec_ShortSpares_DD hc (by kernel_rfl) (fun K hK => ?_); simp only [ea, gv, sv, D_spec_l03Day, D_spec_l29Ok, D_spec_l29Stock, reduceCtorEq, reduceIte, Nat.reduceBEq, Nat.reduceAdd, Nat.reduceEqDiff, Nat.reduceLT, Nat.reduceLeDiff, Nat.reduceMul, Nat.reduceSub, BEq.rfl, beq_self_eq_true, Int.reduceToNat]
        (refine ⟨by (omega), hK _ ?_⟩)
        clear hK K
        refine AWP.seq ?_
        refine AWP.regS G_ok spec_ShortSpares_DD hc (by kernel_rfl) (fun K hK => ?_); simp only [ea, gv, sv, D_spec_l03Day, D_spec_l29Ok, D_spec_l29Stock, reduceCtorEq, reduceIte, Nat.reduceBEq, Nat.reduceAdd, Nat.reduceEqDiff, Nat.reduceLT, Nat.reduceLeDiff, Nat.reduceMul, Nat.reduceSub, BEq.rfl, beq_self_eq_true, Int.reduceToNat]
        (refine ⟨by (omega), hK _ ?_⟩)
        clear hK K
        refine AWP.cond rfl (fun hb => ?_) (fun hb => ?_)
        · (simp only [hb, cond_true] at hz1)
          refine AWP.regS G_ok spec_ShortSpares_DD hc (by kernel_rfl) (fun K hK => ?_); simp only [ea, gv, sv, D_spec_l03Day, D_spec_l29Ok, D_spec_l29Stock, reduceCtorEq, reduceIte, Nat.reduceBEq, Nat.reduceAdd, Nat.reduceEqDiff, Nat.reduceLT, Nat.reduceLeDiff, Nat.reduceMul, Nat.reduceSub, BEq.rfl, beq_self_eq_true, Int.reduceToNat]
          (refine ⟨by (((try clear hK K); (repeat' (apply And.intro)) <;> first | omega | (simp only [ob, ln, bdv, sv] at *; omega))), hK _ ?_⟩)
          clear hK K
          refine AWP.regS G_ok spec_ShortSpares_DD hc (by kernel_rfl) (fun K hK => ?_); simp only [ea, gv, sv, D_spec_l03Day, D_spec_l29Ok, D_spec_l29Stock, reduceCtorEq, reduceIte, Nat.reduceBEq, Nat.reduceAdd, Nat.reduceEqDiff, Nat.reduceLT, Nat.reduceLeDiff, Nat.reduceMul, Nat.reduceSub, BEq.rfl, beq_self_eq_true, Int.reduceToNat]
          (refine hK _ ?_)
          clear hK K
          exact ⟨_, [0, 3], hlt1, by ((and_intros <;> simp only [ob, ln] at * <;> omega)), hz1, by (simp only [si, ea, gv, sv, hk, reduceCtorEq, reduceIte, Nat.reduceBEq, Nat.reduceAdd, Nat.reduceEqDiff, Nat.reduceLT, Nat.reduceLeDiff, Nat.reduceMul, Nat.reduceSub, BEq.rfl, beq_self_eq_true, Int.reduceToNat]; (and_intros <;> first | trivial | (simp only [ln]; done) | (simp only [ob, ln, bdv, sv] at *; omega) | (intro j hj; simp only [pw, Bool.cond_eq_ite, Bool.and_eq_true, decide_eq_true_eq]; (try rw [subL_getD _ _ _ _ (by assumption)]); (try rw [clearL_getD _ _ _ _ (by omega)]); (repeat' split) <;> first | rfl | omega)))⟩
        · (simp only [hb, cond_false] at hz1)
          refine AWP.skip ?_
          refine AWP.regS G_ok spec_ShortSpares_DD hc (by kernel_rfl) (fun K hK => ?_); simp only [ea, gv, sv, D_spec_l03Day, D_spec_l29Ok, D_spec_l29Stock, reduceCtorEq, reduceIte, Nat.reduceBEq, Nat.reduceAdd, Nat.reduceEqDiff, Nat.reduceLT, Nat.reduceLeDiff, Nat.reduceMul, Nat.reduceSub, BEq.rfl, beq_self_eq_true, Int.reduceToNat]
          (refine hK _ ?_)
          clear hK K
          exact ⟨_, [0, 1], hlt1, by ((and_intros <;> simp only [ob, ln] at * <;> omega)), hz1, by (simp only [si, ea, gv, sv, hk, reduceCtorEq, reduceIte, Nat.reduceBEq, Nat.reduceAdd, Nat.reduceEqDiff, Nat.reduceLT, Nat.reduceLeDiff, Nat.reduceMul, Nat.reduceSub, BEq.rfl, beq_self_eq_true, Int.reduceToNat]; (and_intros <;> first | trivial | (simp only [ob, ln, bdv, sv] at *; omega)))⟩
      · obtain rfl : i1 = a0.Spares.length := by ((simp only [ob, ln, bdv, sv] at *; omega))
        rw [loopR_ge (Nat.le_refl _)] at hz1; subst hz1; dsimp only at hR
        refine AWP.exit ?_; refine exitTo_here ?_
        refine AWP.seq ?_
        refine AWP.regS G_ok spec_ShortSpares_DD hc (by kernel_rfl) (fun K hK => ?_); simp only [ea, gv, sv, D_spec_l03Day, D_spec_l29Ok, D_spec_l29Stock, reduceCtorEq, reduceIte, Nat.reduceBEq, Nat.reduceAdd, Nat.reduceEqDiff, Nat.reduceLT, Nat.reduceLeDiff, Nat.reduceMul, Nat.reduceSub, BEq.rfl, beq_self_eq_true, Int.reduceToNat]
        (refine hK _ ?_)
        clear hK K
        refine AWP.ret ?_
        subst hR
        (simp only [en, si, ea, gv, sv, hk, reduceCtorEq, reduceIte, Nat.reduceBEq, Nat.reduceAdd, Nat.reduceEqDiff, Nat.reduceLT, Nat.reduceLeDiff, Nat.reduceMul, Nat.reduceSub, BEq.rfl, beq_self_eq_true, Int.reduceToNat]; (and_intros <;> omega))

def D_spec_ShortSpares : DF
  | [x0, x1] => some (.tup [ownL 9 1 eS ((spec_ShortSpares (rdG dStore x0) (rdI x1)).1), .int .i64 ((spec_ShortSpares (rdG dStore x0) (rdI x1)).2)], false, [wG eStore dStore x0, wI .i64 x1, bdStore (rdG dStore x0)])
  | _ => none
def Dz_spec_ShortSpares : DF
  | [x0, x1] => some (.tup [ownL 9 1 eS ((spec_ShortSpares (rdG dStore x0) (rdI x1)).1), .int .i64 ((spec_ShortSpares (rdG dStore x0) (rdI x1)).2)], true, [wG eStore dStore x0, wI .i64 x1, bdStore (rdG dStore x0)])
  | _ => none
theorem D_spec_ShortSpares_ok : OkD Try.prog 39 D_spec_ShortSpares := by
  intro xs r z ob h ho
  unfold D_spec_ShortSpares at h
  split at h
  · simp only [Option.some.injEq, Prod.mk.injEq] at h
    obtain ⟨rfl, rfl, rfl⟩ := h
    obtain ⟨h0, h1, hb0, _⟩ := ho
    exact Den.sim (spec_ShortSpares_den _ _ hb0) (simOL_cons (wG_sim h0).1 <| simOL_cons (wI_sim h1).1 <| trivial) (noIdL_cons (wG_sim h0).2 <| noIdL_cons (wI_sim h1).2 <| rfl) rfl
  · cases h

theorem Dz_spec_ShortSpares_ok : OkD Try.prog 39 Dz_spec_ShortSpares := by
  intro xs r z ob h ho
  unfold Dz_spec_ShortSpares at h
  split at h
  · simp only [Option.some.injEq, Prod.mk.injEq] at h
    obtain ⟨rfl, rfl, rfl⟩ := h
    obtain ⟨h0, h1, hb0, _⟩ := ho
    exact Den.sim (spec_ShortSpares_den _ _ hb0) (simOL_cons (wG_sim h0).1 <| simOL_cons (wI_sim h1).1 <| trivial) (noIdL_cons (wG_sim h0).2 <| noIdL_cons (wI_sim h1).2 <| rfl) rfl
  · cases h
end Go.Ab

namespace Go.Ab
open Go Go.Proofs
theorem laws_FnExactShortSpares_DD : DOk Try.prog (DD [(15, dP D_laws_szStore), (17, dP D_laws_toStore), (19, dP D_laws_eqStore), (37, dM [true, false] D_laws_markStore), (39, dP D_spec_ShortSpares), (40, dP D_impl_ShortSpares), (41, dP D_laws_eqStringS), (42, dM [true, false] D_laws_markStringS), (43, dP D_laws_heldStringS)]) := DD_cons D_laws_szStore_ok.e <| DD_cons D_laws_toStore_ok.e <| DD_cons D_laws_eqStore_ok.e <| DD_cons D_laws_markStore_ok.e <| DD_cons D_spec_ShortSpares_ok.e <| DD_cons D_impl_ShortSpares_ok.e <| DD_cons D_laws_eqStringS_ok.e <| DD_cons D_laws_markStringS_ok.e <| DD_cons D_laws_heldStringS_ok.e <| DD_nil _
theorem laws_FnExactShortSpares_DZ : DOk Try.prog (DD [(15, dP D_laws_szStore), (17, dP Dz_laws_toStore), (19, dP D_laws_eqStore), (37, dM [true, false] D_laws_markStore), (39, dP D_spec_ShortSpares), (40, dP D_impl_ShortSpares), (41, dP D_laws_eqStringS), (42, dM [true, false] D_laws_markStringS), (43, dP D_laws_heldStringS)]) := DD_cons D_laws_szStore_ok.e <| DD_cons Dz_laws_toStore_ok.e <| DD_cons D_laws_eqStore_ok.e <| DD_cons D_laws_markStore_ok.e <| DD_cons D_spec_ShortSpares_ok.e <| DD_cons D_impl_ShortSpares_ok.e <| DD_cons D_laws_eqStringS_ok.e <| DD_cons D_laws_markStringS_ok.e <| DD_cons D_laws_heldStringS_ok.e <| DD_nil _
def laws_FnExactShortSpares (a0 : Store) (a1 : Int) : Bool :=
  (bif decide ((laws_szStore a0 1048576) < 0) then true else (bif ((!(laws_eqStringS ((impl_ShortSpares ({ Spares := (laws_toStore a0).Spares, Entries := (laws_toStore a0).Entries : Store }) a1).1) ((spec_ShortSpares ({ Spares := (laws_toStore a0).Spares, Entries := (laws_toStore a0).Entries : Store }) a1).1))) || (((impl_ShortSpares ({ Spares := (laws_toStore a0).Spares, Entries := (laws_toStore a0).Entries : Store }) a1).2) != ((spec_ShortSpares ({ Spares := (laws_toStore a0).Spares, Entries := (laws_toStore a0).Entries : Store }) a1).2))) then false else (bif (!(laws_eqStore ({ Spares := (laws_toStore a0).Spares, Entries := (laws_toStore a0).Entries : Store }) (laws_toStore a0))) then false else (bif ((decide (((laws_markStore ({ Spares := (laws_toStore a0).Spares, Entries := (laws_toStore a0).Entries : Store }) 1).1) < 0) || (!(laws_eqStringS ((impl_ShortSpares ({ Spares := (laws_toStore a0).Spares, Entries := (laws_toStore a0).Entries : Store }) a1).1) ((spec_ShortSpares ({ Spares := (laws_toStore a0).Spares, Entries := (laws_toStore a0).Entries : Store }) a1).1)))) || (((impl_ShortSpares ({ Spares := (laws_toStore a0).Spares, Entries := (laws_toStore a0).Entries : Store }) a1).2) != ((spec_ShortSpares ({ Spares := (laws_toStore a0).Spares, Entries := (laws_toStore a0).Entries : Store }) a1).2))) then false else (bif decide ((laws_heldStringS ((laws_markStringS ((impl_ShortSpares ({ Spares := (laws_toStore a0).Spares, Entries := (laws_toStore a0).Entries : Store }) a1).1) 1).2) 1) < 0) then false else (bif ((laws_heldStringS ((laws_markStringS ((impl_ShortSpares ({ Spares := (laws_toStore a0).Spares, Entries := (laws_toStore a0).Entries : Store }) a1).1) 1).2) 1) != ((laws_markStringS ((impl_ShortSpares ({ Spares := (laws_toStore a0).Spares, Entries := (laws_toStore a0).Entries : Store }) a1).1) 1).1)) then false else true))))))

theorem laws_FnExactShortSpares_den (a0 : Store) (a1 : Int)  : Den Try.prog 10 [.agg (eStore a0), .int .i64 a1] (.bool (laws_FnExactShortSpares a0 a1)) := by
  generalize hR : laws_FnExactShortSpares a0 a1 = r
  unfold laws_FnExactShortSpares at hR
  refine den_intro G_ok Try.func10 (by kernel_rfl) rfl Try.ntmps10 (by rw [Try.results10]) (by simp) rfl ?_
  intro c hL hc hk
  obtain ⟨hL0, hL1, _⟩ := hL
  have hw0 : bwStore a0 := Store_lens a0 hL0
  clear hL0 hL1
  simp only [pars, Nat.zero_add]
  have hf0 := laws_szStore_facts a0 (1048576) (by omega) (by omega) hw0
  refine AWP.seq ?_
  refine AWP.regS G_ok laws_FnExactShortSpares_DD hc (by kernel_rfl) (fun K hK => ?_); simp only [ea, absV, absVL, gv, sv, laws_markStringS_sub, laws_markStringS_sub, D_laws_szStore, D_laws_toStore, D_laws_eqStore, D_laws_markStore, D_spec_ShortSpares, D_impl_ShortSpares, D_laws_eqStringS, D_laws_markStringS, D_laws_heldStringS, Dz_laws_toStore, reduceCtorEq, reduceIte, Nat.reduceBEq, Nat.reduceAdd, Nat.reduceEqDiff, Nat.reduceLT, Nat.reduceLeDiff, Nat.reduceMul, Nat.reduceSub, BEq.rfl, beq_self_eq_true, Int.reduceToNat]
  (refine hK _ ?_)
  clear hK K
  refine AWP.seq ?_
  refine AWP.regS G_ok laws_FnExactShortSpares_DD hc (by kernel_rfl) (fun K hK => ?_); simp only [ea, absV, absVL, gv, sv, laws_markStringS_sub, laws_markStringS_sub, D_laws_szStore, D_laws_toStore, D_laws_eqStore, D_laws_markStore, D_spec_ShortSpares, D_impl_ShortSpares, D_laws_eqStringS, D_laws_markStringS, D_laws_heldStringS, Dz_laws_toStore, reduceCtorEq, reduceIte, Nat.reduceBEq, Nat.reduceAdd, Nat.reduceEqDiff, Nat.reduceLT, Nat.reduceLeDiff, Nat.reduceMul, Nat.reduceSub, BEq.rfl, beq_self_eq_true, Int.reduceToNat]
  (refine hK _ ?_)
  clear hK K
  refine AWP.seq ?_
  refine AWP.regS G_ok laws_FnExactShortSpares_DD hc (by kernel_rfl) (fun K hK => ?_); simp only [ea, absV, absVL, gv, sv, laws_markStringS_sub, laws_markStringS_sub, D_laws_szStore, D_laws_toStore, D_laws_eqStore, D_laws_markStore, D_spec_ShortSpares, D_impl_ShortSpares, D_laws_eqStringS, D_laws_markStringS, D_laws_heldStringS, Dz_laws_toStore, reduceCtorEq, reduceIte, Nat.reduceBEq, Nat.reduceAdd, Nat.reduceEqDiff, Nat.reduceLT, Nat.reduceLeDiff, Nat.reduceMul, Nat.reduceSub, BEq.rfl, beq_self_eq_true, Int.reduceToNat]
  (refine ⟨by (trivial), hK _ ?_⟩)
  clear hK K
  refine AWP.seq ?_
  refine AWP.seq ?_
  refine AWP.regS G_ok laws_FnExactShortSpares_DD hc (by kernel_rfl) (fun K hK => ?_); simp only [ea, absV, absVL, gv, sv, laws_markStringS_sub, laws_markStringS_sub, D_laws_szStore, D_laws_toStore, D_laws_eqStore, D_laws_markStore, D_spec_ShortSpares, D_impl_ShortSpares, D_laws_eqStringS, D_laws_markStringS, D_laws_heldStringS, Dz_laws_toStore, reduceCtorEq, reduceIte, Nat.reduceBEq, Nat.reduceAdd, Nat.reduceEqDiff, Nat.reduceLT, Nat.reduceLeDiff, Nat.reduceMul, Nat.reduceSub, BEq.rfl, beq_self_eq_true, Int.reduceToNat]
  (refine hK _ ?_)
  clear hK K
  refine AWP.cond rfl (fun hb => ?_) (fun hb => ?_)
  · (simp only [hb, cond_true] at hR)
    refine AWP.seq ?_
    refine AWP.regS G_ok laws_FnExactShortSpares_DD hc (by kernel_rfl) (fun K hK => ?_); simp only [ea, absV, absVL, gv, sv, laws_markStringS_sub, laws_markStringS_sub, D_laws_szStore, D_laws_toStore, D_laws_eqStore, D_laws_markStore, D_spec_ShortSpares, D_impl_ShortSpares, D_laws_eqStringS, D_laws_markStringS, D_laws_heldStringS, Dz_laws_toStore, reduceCtorEq, reduceIte, Nat.reduceBEq, Nat.reduceAdd, Nat.reduceEqDiff, Nat.reduceLT, Nat.reduceLeDiff, Nat.reduceMul, Nat.reduceSub, BEq.rfl, beq_self_eq_true, Int.reduceToNat]
    (refine hK _ ?_)
    clear hK K
    refine AWP.ret ?_
    subst hR
    (simp only [en, si, ea, gv, sv, hk, reduceCtorEq, reduceIte, Nat.reduceBEq, Nat.reduceAdd, Nat.reduceEqDiff, Nat.reduceLT, Nat.reduceLeDiff, Nat.reduceMul, Nat.reduceSub, BEq.rfl, beq_self_eq_true, Int.reduceToNat]; done)
  · (simp only [hb, cond_false] at hR)
    refine AWP.skip ?_
    refine AWP.seq ?_
    refine AWP.regS G_ok laws_FnExactShortSpares_DD hc (by kernel_rfl) (fun K hK => ?_); simp only [ea, absV, absVL, gv, sv, laws_markStringS_sub, laws_markStringS_sub, D_laws_szStore, D_laws_toStore, D_laws_eqStore, D_laws_markStore, D_spec_ShortSpares, D_impl_ShortSpares, D_laws_eqStringS, D_laws_markStringS, D_laws_heldStringS, Dz_laws_toStore, reduceCtorEq, reduceIte, Nat.reduceBEq, Nat.reduceAdd, Nat.reduceEqDiff, Nat.reduceLT, Nat.reduceLeDiff, Nat.reduceMul, Nat.reduceSub, BEq.rfl, beq_self_eq_true, Int.reduceToNat]
    (refine ⟨by (((try clear hK K); (repeat' first | apply And.intro | intro _) <;> first | omega | (simp only [ob, ln, bdv, laws_toStore_id, laws_markStringS_len, sv] at *; first | omega | (simp_all; done)))), hK _ ?_⟩)
    clear hK K
    refine AWP.seq ?_
    refine AWP.regS G_ok laws_FnExactShortSpares_DD hc (by kernel_rfl) (fun K hK => ?_); simp only [ea, absV, absVL, gv, sv, laws_markStringS_sub, laws_markStringS_sub, D_laws_szStore, D_laws_toStore, D_laws_eqStore, D_laws_markStore, D_spec_ShortSpares, D_impl_ShortSpares, D_laws_eqStringS, D_laws_markStringS, D_laws_heldStringS, Dz_laws_toStore, reduceCtorEq, reduceIte, Nat.reduceBEq, Nat.reduceAdd, Nat.reduceEqDiff, Nat.reduceLT, Nat.reduceLeDiff, Nat.reduceMul, Nat.reduceSub, BEq.rfl, beq_self_eq_true, Int.reduceToNat]
    (refine ⟨by (((try clear hK K); (repeat' first | apply And.intro | intro _) <;> (simp only [ob, ln, bdv, laws_toStore_id, laws_markStringS_len, sv] at *; first | omega | (simp_all; done)))), hK _ ?_⟩)
    clear hK K
    refine AWP.seq ?_
    refine AWP.regS G_ok laws_FnExactShortSpares_DD hc (by kernel_rfl) (fun K hK => ?_); simp only [ea, absV, absVL, gv, sv, laws_markStringS_sub, laws_markStringS_sub, D_laws_szStore, D_laws_toStore, D_laws_eqStore, D_laws_markStore, D_spec_ShortSpares, D_impl_ShortSpares, D_laws_eqStringS, D_laws_markStringS, D_laws_heldStringS, Dz_laws_toStore, reduceCtorEq, reduceIte, Nat.reduceBEq, Nat.reduceAdd, Nat.reduceEqDiff, Nat.reduceLT, Nat.reduceLeDiff, Nat.reduceMul, Nat.reduceSub, BEq.rfl, beq_self_eq_true, Int.reduceToNat]
    (refine ⟨by (((try clear hK K); (repeat' first | apply And.intro | intro _) <;> first | omega | (simp only [ob, ln, bdv, laws_toStore_id, laws_markStringS_len, sv] at *; first | omega | (simp_all; done)))), hK _ ?_⟩)
    clear hK K
    refine AWP.seq ?_
    refine AWP.seq ?_
    refine AWP.regS G_ok laws_FnExactShortSpares_DD hc (by kernel_rfl) (fun K hK => ?_); simp only [ea, absV, absVL, gv, sv, laws_markStringS_sub, laws_markStringS_sub, D_laws_szStore, D_laws_toStore, D_laws_eqStore, D_laws_markStore, D_spec_ShortSpares, D_impl_ShortSpares, D_laws_eqStringS, D_laws_markStringS, D_laws_heldStringS, Dz_laws_toStore, reduceCtorEq, reduceIte, Nat.reduceBEq, Nat.reduceAdd, Nat.reduceEqDiff, Nat.reduceLT, Nat.reduceLeDiff, Nat.reduceMul, Nat.reduceSub, BEq.rfl, beq_self_eq_true, Int.reduceToNat]
    (refine ⟨by (omega), hK _ ?_⟩)
    clear hK K
    refine AWP.cond rfl (fun hb => ?_) (fun hb => ?_)
    · (simp only [hb, cond_true] at hR)
      refine AWP.seq ?_
      refine AWP.regS G_ok laws_FnExactShortSpares_DD hc (by kernel_rfl) (fun K hK => ?_); simp only [ea, absV, absVL, gv, sv, laws_markStringS_sub, laws_markStringS_sub, D_laws_szStore, D_laws_toStore, D_laws_eqStore, D_laws_markStore, D_spec_ShortSpares, D_impl_ShortSpares, D_laws_eqStringS, D_laws_markStringS, D_laws_heldStringS, Dz_laws_toStore, reduceCtorEq, reduceIte, Nat.reduceBEq, Nat.reduceAdd, Nat.reduceEqDiff, Nat.reduceLT, Nat.reduceLeDiff, Nat.reduceMul, Nat.reduceSub, BEq.rfl, beq_self_eq_true, Int.reduceToNat]
      (refine hK _ ?_)
      clear hK K
      refine AWP.ret ?_
      subst hR
      (simp only [en, si, ea, gv, sv, hk, reduceCtorEq, reduceIte, Nat.reduceBEq, Nat.reduceAdd, Nat.reduceEqDiff, Nat.reduceLT, Nat.reduceLeDiff, Nat.reduceMul, Nat.reduceSub, BEq.rfl, beq_self_eq_true, Int.reduceToNat]; done)
    · (simp only [hb, cond_false] at hR)
      refine AWP.skip ?_
      refine AWP.seq ?_
      refine AWP.seq ?_
      refine AWP.regD mixed G_ok laws_FnExactShortSpares_DZ hc 3 (by kernel_rfl) (by kernel_rfl) (fun K hK => ?_); simp only [ea, absV, absVL, gv, sv, laws_markStringS_sub, laws_markStringS_sub, D_laws_szStore, D_laws_toStore, D_laws_eqStore, D_laws_markStore, D_spec_ShortSpares, D_impl_ShortSpares, D_laws_eqStringS, D_laws_markStringS, D_laws_heldStringS, Dz_laws_toStore, reduceCtorEq, reduceIte, Nat.reduceBEq, Nat.reduceAdd, Nat.reduceEqDiff, Nat.reduceLT, Nat.reduceLeDiff, Nat.reduceMul, Nat.reduceSub, BEq.rfl, beq_self_eq_true, Int.reduceToNat]
      (refine ⟨by (((try clear hK K); (repeat' first | apply And.intro | intro _) <;> first | omega | (simp only [ob, ln, bdv, laws_toStore_id, laws_markStringS_len, sv] at *; first | omega | (simp_all; done)))), hK _ ?_⟩)
      clear hK K
      refine AWP.cond rfl (fun hb => ?_) (fun hb => ?_)
      · (simp only [hb, cond_true] at hR)
        refine AWP.seq ?_
        refine AWP.regS G_ok laws_FnExactShortSpares_DD hc (by kernel_rfl) (fun K hK => ?_); simp only [ea, absV, absVL, gv, sv, laws_markStringS_sub, laws_markStringS_sub, D_laws_szStore, D_laws_toStore, D_laws_eqStore, D_laws_markStore, D_spec_ShortSpares, D_impl_ShortSpares, D_laws_eqStringS, D_laws_markStringS, D_laws_heldStringS, Dz_laws_toStore, reduceCtorEq, reduceIte, Nat.reduceBEq, Nat.reduceAdd, Nat.reduceEqDiff, Nat.reduceLT, Nat.reduceLeDiff, Nat.reduceMul, Nat.reduceSub, BEq.rfl, beq_self_eq_true, Int.reduceToNat]
        (refine hK _ ?_)
        clear hK K
        refine AWP.ret ?_
        subst hR
        (simp only [en, si, ea, gv, sv, hk, reduceCtorEq, reduceIte, Nat.reduceBEq, Nat.reduceAdd, Nat.reduceEqDiff, Nat.reduceLT, Nat.reduceLeDiff, Nat.reduceMul, Nat.reduceSub, BEq.rfl, beq_self_eq_true, Int.reduceToNat]; done)
      · (simp only [hb, cond_false] at hR)
        refine AWP.skip ?_
        refine AWP.seq ?_
        refine AWP.regS G_ok laws_FnExactShortSpares_DD hc (by kernel_rfl) (fun K hK => ?_); simp only [ea, absV, absVL, gv, sv, laws_markStringS_sub, laws_markStringS_sub, D_laws_szStore, D_laws_toStore, D_laws_eqStore, D_laws_markStore, D_spec_ShortSpares, D_impl_ShortSpares, D_laws_eqStringS, D_laws_markStringS, D_laws_heldStringS, Dz_laws_toStore, reduceCtorEq, reduceIte, Nat.reduceBEq, Nat.reduceAdd, Nat.reduceEqDiff, Nat.reduceLT, Nat.reduceLeDiff, Nat.reduceMul, Nat.reduceSub, BEq.rfl, beq_self_eq_true, Int.reduceToNat]
        (refine hK _ ?_)
        clear hK K
        refine AWP.seq ?_
        refine AWP.regS G_ok laws_FnExactShortSpares_DD hc (by kernel_rfl) (fun K hK => ?_); simp only [ea, absV, absVL, gv, sv, laws_markStringS_sub, laws_markStringS_sub, D_laws_szStore, D_laws_toStore, D_laws_eqStore, D_laws_markStore, D_spec_ShortSpares, D_impl_ShortSpares, D_laws_eqStringS, D_laws_markStringS, D_laws_heldStringS, Dz_laws_toStore, reduceCtorEq, reduceIte, Nat.reduceBEq, Nat.reduceAdd, Nat.reduceEqDiff, Nat.reduceLT, Nat.reduceLeDiff, Nat.reduceMul, Nat.reduceSub, BEq.rfl, beq_self_eq_true, Int.reduceToNat]
        (refine ⟨by (((try clear hK K); (repeat' (apply And.intro)) <;> first | trivial | omega | (simp only [ob, ln, bdv, laws_toStore_id, laws_markStringS_len, sv] at *; omega))), hK _ ?_⟩)
        clear hK K
        refine AWP.seq ?_
        refine AWP.seq ?_
        refine AWP.regS G_ok laws_FnExactShortSpares_DD hc (by kernel_rfl) (fun K hK => ?_); simp only [ea, absV, absVL, gv, sv, laws_markStringS_sub, laws_markStringS_sub, D_laws_szStore, D_laws_toStore, D_laws_eqStore, D_laws_markStore, D_spec_ShortSpares, D_impl_ShortSpares, D_laws_eqStringS, D_laws_markStringS, D_laws_heldStringS, Dz_laws_toStore, reduceCtorEq, reduceIte, Nat.reduceBEq, Nat.reduceAdd, Nat.reduceEqDiff, Nat.reduceLT, Nat.reduceLeDiff, Nat.reduceMul, Nat.reduceSub, BEq.rfl, beq_self_eq_true, Int.reduceToNat]
        (refine ⟨by (omega), hK _ ?_⟩)
        clear hK K
        refine AWP.cond rfl (fun hb => ?_) (fun hb => ?_)
        · (simp only [hb, cond_true] at hR)
          refine AWP.seq ?_
          refine AWP.regS G_ok laws_FnExactShortSpares_DD hc (by kernel_rfl) (fun K hK => ?_); simp only [ea, absV, absVL, gv, sv, laws_markStringS_sub, laws_markStringS_sub, D_laws_szStore, D_laws_toStore, D_laws_eqStore, D_laws_markStore, D_spec_ShortSpares, D_impl_ShortSpares, D_laws_eqStringS, D_laws_markStringS, D_laws_heldStringS, Dz_laws_toStore, reduceCtorEq, reduceIte, Nat.reduceBEq, Nat.reduceAdd, Nat.reduceEqDiff, Nat.reduceLT, Nat.reduceLeDiff, Nat.reduceMul, Nat.reduceSub, BEq.rfl, beq_self_eq_true, Int.reduceToNat]
          (refine hK _ ?_)
          clear hK K
          refine AWP.ret ?_
          subst hR
          (simp only [en, si, ea, gv, sv, hk, reduceCtorEq, reduceIte, Nat.reduceBEq, Nat.reduceAdd, Nat.reduceEqDiff, Nat.reduceLT, Nat.reduceLeDiff, Nat.reduceMul, Nat.reduceSub, BEq.rfl, beq_self_eq_true, Int.reduceToNat]; done)
        · (simp only [hb, cond_false] at hR)
          refine AWP.skip ?_
          refine AWP.seq ?_
          refine AWP.regS G_ok laws_FnExactShortSpares_DD hc (by kernel_rfl) (fun K hK => ?_); simp only [ea, absV, absVL, gv, sv, laws_markStringS_sub, laws_markStringS_sub, D_laws_szStore, D_laws_toStore, D_laws_eqStore, D_laws_markStore, D_spec_ShortSpares, D_impl_ShortSpares, D_laws_eqStringS, D_laws_markStringS, D_laws_heldStringS, Dz_laws_toStore, reduceCtorEq, reduceIte, Nat.reduceBEq, Nat.reduceAdd, Nat.reduceEqDiff, Nat.reduceLT, Nat.reduceLeDiff, Nat.reduceMul, Nat.reduceSub, BEq.rfl, beq_self_eq_true, Int.reduceToNat]
          (refine hK _ ?_)
          clear hK K
          refine AWP.seq ?_
          refine AWP.regS G_ok laws_FnExactShortSpares_DD hc (by kernel_rfl) (fun K hK => ?_); simp only [ea, absV, absVL, gv, sv, laws_markStringS_sub, laws_markStringS_sub, D_laws_szStore, D_laws_toStore, D_laws_eqStore, D_laws_markStore, D_spec_ShortSpares, D_impl_ShortSpares, D_laws_eqStringS, D_laws_markStringS, D_laws_heldStringS, Dz_laws_toStore, reduceCtorEq, reduceIte, Nat.reduceBEq, Nat.reduceAdd, Nat.reduceEqDiff, Nat.reduceLT, Nat.reduceLeDiff, Nat.reduceMul, Nat.reduceSub, BEq.rfl, beq_self_eq_true, Int.reduceToNat]
          (refine ⟨by (((try clear hK K); (repeat' (apply And.intro)) <;> first | trivial | omega | (simp only [ob, ln, bdv, laws_toStore_id, laws_markStringS_len, sv] at *; (grind [impl_ShortSpares_len, laws_markStringS_len, laws_markStringS_len])))), hK _ ?_⟩)
          clear hK K
          refine AWP.seq ?_
          refine AWP.regS G_ok laws_FnExactShortSpares_DD hc (by kernel_rfl) (fun K hK => ?_); simp only [ea, absV, absVL, gv, sv, laws_markStringS_sub, laws_markStringS_sub, D_laws_szStore, D_laws_toStore, D_laws_eqStore, D_laws_markStore, D_spec_ShortSpares, D_impl_ShortSpares, D_laws_eqStringS, D_laws_markStringS, D_laws_heldStringS, Dz_laws_toStore, reduceCtorEq, reduceIte, Nat.reduceBEq, Nat.reduceAdd, Nat.reduceEqDiff, Nat.reduceLT, Nat.reduceLeDiff, Nat.reduceMul, Nat.reduceSub, BEq.rfl, beq_self_eq_true, Int.reduceToNat]
          (refine hK _ ?_)
          clear hK K
          refine AWP.seq ?_
          refine AWP.regS G_ok laws_FnExactShortSpares_DD hc (by kernel_rfl) (fun K hK => ?_); simp only [ea, absV, absVL, gv, sv, laws_markStringS_sub, laws_markStringS_sub, D_laws_szStore, D_laws_toStore, D_laws_eqStore, D_laws_markStore, D_spec_ShortSpares, D_impl_ShortSpares, D_laws_eqStringS, D_laws_markStringS, D_laws_heldStringS, Dz_laws_toStore, reduceCtorEq, reduceIte, Nat.reduceBEq, Nat.reduceAdd, Nat.reduceEqDiff, Nat.reduceLT, Nat.reduceLeDiff, Nat.reduceMul, Nat.reduceSub, BEq.rfl, beq_self_eq_true, Int.reduceToNat]
          (refine ⟨by (((try clear hK K); (repeat' (apply And.intro)) <;> first | trivial | (simp only [ob, ln, bdv, laws_toStore_id, laws_markStringS_len, sv] at *; first | done | grind [impl_ShortSpares_len, laws_markStringS_len, laws_markStringS_len]))), hK _ ?_⟩)
          clear hK K
          refine AWP.seq ?_
          refine AWP.seq ?_
          refine AWP.regS G_ok laws_FnExactShortSpares_DD hc (by kernel_rfl) (fun K hK => ?_); simp only [ea, absV, absVL, gv, sv, laws_markStringS_sub, laws_markStringS_sub, D_laws_szStore, D_laws_toStore, D_laws_eqStore, D_laws_markStore, D_spec_ShortSpares, D_impl_ShortSpares, D_laws_eqStringS, D_laws_markStringS, D_laws_heldStringS, Dz_laws_toStore, reduceCtorEq, reduceIte, Nat.reduceBEq, Nat.reduceAdd, Nat.reduceEqDiff, Nat.reduceLT, Nat.reduceLeDiff, Nat.reduceMul, Nat.reduceSub, BEq.rfl, beq_self_eq_true, Int.reduceToNat]
          (refine hK _ ?_)
          clear hK K
          refine AWP.cond rfl (fun hb => ?_) (fun hb => ?_)
          · (simp only [hb, cond_true] at hR)
            refine AWP.seq ?_
            refine AWP.regS G_ok laws_FnExactShortSpares_DD hc (by kernel_rfl) (fun K hK => ?_); simp only [ea, absV, absVL, gv, sv, laws_markStringS_sub, laws_markStringS_sub, D_laws_szStore, D_laws_toStore, D_laws_eqStore, D_laws_markStore, D_spec_ShortSpares, D_impl_ShortSpares, D_laws_eqStringS, D_laws_markStringS, D_laws_heldStringS, Dz_laws_toStore, reduceCtorEq, reduceIte, Nat.reduceBEq, Nat.reduceAdd, Nat.reduceEqDiff, Nat.reduceLT, Nat.reduceLeDiff, Nat.reduceMul, Nat.reduceSub, BEq.rfl, beq_self_eq_true, Int.reduceToNat]
            (refine hK _ ?_)
            clear hK K
            refine AWP.ret ?_
            subst hR
            (simp only [en, si, ea, gv, sv, hk, reduceCtorEq, reduceIte, Nat.reduceBEq, Nat.reduceAdd, Nat.reduceEqDiff, Nat.reduceLT, Nat.reduceLeDiff, Nat.reduceMul, Nat.reduceSub, BEq.rfl, beq_self_eq_true, Int.reduceToNat]; done)
          · (simp only [hb, cond_false] at hR)
            refine AWP.skip ?_
            refine AWP.seq ?_
            refine AWP.seq ?_
            refine AWP.regS G_ok laws_FnExactShortSpares_DD hc (by kernel_rfl) (fun K hK => ?_); simp only [ea, absV, absVL, gv, sv, laws_markStringS_sub, laws_markStringS_sub, D_laws_szStore, D_laws_toStore, D_laws_eqStore, D_laws_markStore, D_spec_ShortSpares, D_impl_ShortSpares, D_laws_eqStringS, D_laws_markStringS, D_laws_heldStringS, Dz_laws_toStore, reduceCtorEq, reduceIte, Nat.reduceBEq, Nat.reduceAdd, Nat.reduceEqDiff, Nat.reduceLT, Nat.reduceLeDiff, Nat.reduceMul, Nat.reduceSub, BEq.rfl, beq_self_eq_true, Int.reduceToNat]
            (refine hK _ ?_)
            clear hK K
            refine AWP.cond rfl (fun hb => ?_) (fun hb => ?_)
            · (simp only [hb, cond_true] at hR)
              refine AWP.seq ?_
              refine AWP.regS G_ok laws_FnExactShortSpares_DD hc (by kernel_rfl) (fun K hK => ?_); simp only [ea, absV, absVL, gv, sv, laws_markStringS_sub, laws_markStringS_sub, D_laws_szStore, D_laws_toStore, D_laws_eqStore, D_laws_markStore, D_spec_ShortSpares, D_impl_ShortSpares, D_laws_eqStringS, D_laws_markStringS, D_laws_heldStringS, Dz_laws_toStore, reduceCtorEq, reduceIte, Nat.reduceBEq, Nat.reduceAdd, Nat.reduceEqDiff, Nat.reduceLT, Nat.reduceLeDiff, Nat.reduceMul, Nat.reduceSub, BEq.rfl, beq_self_eq_true, Int.reduceToNat]
              (refine hK _ ?_)
              clear hK K
              refine AWP.ret ?_
              subst hR
              (simp only [en, si, ea, gv, sv, hk, reduceCtorEq, reduceIte, Nat.reduceBEq, Nat.reduceAdd, Nat.reduceEqDiff, Nat.reduceLT, Nat.reduceLeDiff, Nat.reduceMul, Nat.reduceSub, BEq.rfl, beq_self_eq_true, Int.reduceToNat]; done)
            · (simp only [hb, cond_false] at hR)
              refine AWP.skip ?_
              refine AWP.seq ?_
              refine AWP.regS G_ok laws_FnExactShortSpares_DD hc (by kernel_rfl) (fun K hK => ?_); simp only [ea, absV, absVL, gv, sv, laws_markStringS_sub, laws_markStringS_sub, D_laws_szStore, D_laws_toStore, D_laws_eqStore, D_laws_markStore, D_spec_ShortSpares, D_impl_ShortSpares, D_laws_eqStringS, D_laws_markStringS, D_laws_heldStringS, Dz_laws_toStore, reduceCtorEq, reduceIte, Nat.reduceBEq, Nat.reduceAdd, Nat.reduceEqDiff, Nat.reduceLT, Nat.reduceLeDiff, Nat.reduceMul, Nat.reduceSub, BEq.rfl, beq_self_eq_true, Int.reduceToNat]
              (refine ⟨by (((try clear hK K); (repeat' first | apply And.intro | intro _) <;> first | omega | (simp only [ob, ln, bdv, laws_toStore_id, laws_markStringS_len, sv] at *; first | omega | (simp_all; done)))), hK _ ?_⟩)
              clear hK K
              refine AWP.seq ?_
              refine AWP.seq ?_
              refine AWP.regS G_ok laws_FnExactShortSpares_DD hc (by kernel_rfl) (fun K hK => ?_); simp only [ea, absV, absVL, gv, sv, laws_markStringS_sub, laws_markStringS_sub, D_laws_szStore, D_laws_toStore, D_laws_eqStore, D_laws_markStore, D_spec_ShortSpares, D_impl_ShortSpares, D_laws_eqStringS, D_laws_markStringS, D_laws_heldStringS, Dz_laws_toStore, reduceCtorEq, reduceIte, Nat.reduceBEq, Nat.reduceAdd, Nat.reduceEqDiff, Nat.reduceLT, Nat.reduceLeDiff, Nat.reduceMul, Nat.reduceSub, BEq.rfl, beq_self_eq_true, Int.reduceToNat]
              (refine ⟨by (omega), hK _ ?_⟩)
              clear hK K
              refine AWP.cond rfl (fun hb => ?_) (fun hb => ?_)
              · exfalso; simp_all
              · refine AWP.skip ?_
                refine AWP.seq ?_
                refine AWP.regS G_ok laws_FnExactShortSpares_DD hc (by kernel_rfl) (fun K hK => ?_); simp only [ea, absV, absVL, gv, sv, laws_markStringS_sub, laws_markStringS_sub, D_laws_szStore, D_laws_toStore, D_laws_eqStore, D_laws_markStore, D_spec_ShortSpares, D_impl_ShortSpares, D_laws_eqStringS, D_laws_markStringS, D_laws_heldStringS, Dz_laws_toStore, reduceCtorEq, reduceIte, Nat.reduceBEq, Nat.reduceAdd, Nat.reduceEqDiff, Nat.reduceLT, Nat.reduceLeDiff, Nat.reduceMul, Nat.reduceSub, BEq.rfl, beq_self_eq_true, Int.reduceToNat]
                (refine hK _ ?_)
                clear hK K
                refine AWP.seq ?_
                refine AWP.regS G_ok laws_FnExactShortSpares_DD hc (by kernel_rfl) (fun K hK => ?_); simp only [ea, absV, absVL, gv, sv, laws_markStringS_sub, laws_markStringS_sub, D_laws_szStore, D_laws_toStore, D_laws_eqStore, D_laws_markStore, D_spec_ShortSpares, D_impl_ShortSpares, D_laws_eqStringS, D_laws_markStringS, D_laws_heldStringS, Dz_laws_toStore, reduceCtorEq, reduceIte, Nat.reduceBEq, Nat.reduceAdd, Nat.reduceEqDiff, Nat.reduceLT, Nat.reduceLeDiff, Nat.reduceMul, Nat.reduceSub, BEq.rfl, beq_self_eq_true, Int.reduceToNat]
                (refine ⟨by (((try clear hK K); (repeat' (apply And.intro)) <;> first | trivial | (simp only [ob, ln, bdv, laws_toStore_id, laws_markStringS_len, sv] at *; first | done | grind [impl_ShortSpares_len, laws_markStringS_len, laws_markStringS_len]))), hK _ ?_⟩)
                clear hK K
                refine AWP.seq ?_
                refine AWP.seq ?_
                refine AWP.regS G_ok laws_FnExactShortSpares_DD hc (by kernel_rfl) (fun K hK => ?_); simp only [ea, absV, absVL, gv, sv, laws_markStringS_sub, laws_markStringS_sub, D_laws_szStore, D_laws_toStore, D_laws_eqStore, D_laws_markStore, D_spec_ShortSpares, D_impl_ShortSpares, D_laws_eqStringS, D_laws_markStringS, D_laws_heldStringS, Dz_laws_toStore, reduceCtorEq, reduceIte, Nat.reduceBEq, Nat.reduceAdd, Nat.reduceEqDiff, Nat.reduceLT, Nat.reduceLeDiff, Nat.reduceMul, Nat.reduceSub, BEq.rfl, beq_self_eq_true, Int.reduceToNat]
                (refine hK _ ?_)
                clear hK K
                refine AWP.cond rfl (fun hb => ?_) (fun hb => ?_)
                · exfalso; simp_all
                · refine AWP.skip ?_
                  refine AWP.seq ?_
                  refine AWP.seq ?_
                  refine AWP.regS G_ok laws_FnExactShortSpares_DD hc (by kernel_rfl) (fun K hK => ?_); simp only [ea, absV, absVL, gv, sv, laws_markStringS_sub, laws_markStringS_sub, D_laws_szStore, D_laws_toStore, D_laws_eqStore, D_laws_markStore, D_spec_ShortSpares, D_impl_ShortSpares, D_laws_eqStringS, D_laws_markStringS, D_laws_heldStringS, Dz_laws_toStore, reduceCtorEq, reduceIte, Nat.reduceBEq, Nat.reduceAdd, Nat.reduceEqDiff, Nat.reduceLT, Nat.reduceLeDiff, Nat.reduceMul, Nat.reduceSub, BEq.rfl, beq_self_eq_true, Int.reduceToNat]
                  (refine hK _ ?_)
                  clear hK K
                  refine AWP.cond rfl (fun hb => ?_) (fun hb => ?_)
                  · exfalso; simp_all
                  · refine AWP.skip ?_
                    refine AWP.seq ?_
                    refine AWP.regS G_ok laws_FnExactShortSpares_DD hc (by kernel_rfl) (fun K hK => ?_); simp only [ea, absV, absVL, gv, sv, laws_markStringS_sub, laws_markStringS_sub, D_laws_szStore, D_laws_toStore, D_laws_eqStore, D_laws_markStore, D_spec_ShortSpares, D_impl_ShortSpares, D_laws_eqStringS, D_laws_markStringS, D_laws_heldStringS, Dz_laws_toStore, reduceCtorEq, reduceIte, Nat.reduceBEq, Nat.reduceAdd, Nat.reduceEqDiff, Nat.reduceLT, Nat.reduceLeDiff, Nat.reduceMul, Nat.reduceSub, BEq.rfl, beq_self_eq_true, Int.reduceToNat]
                    (refine hK _ ?_)
                    clear hK K
                    refine AWP.ret ?_
                    subst hR
                    (simp only [en, si, ea, gv, sv, hk, reduceCtorEq, reduceIte, Nat.reduceBEq, Nat.reduceAdd, Nat.reduceEqDiff, Nat.reduceLT, Nat.reduceLeDiff, Nat.reduceMul, Nat.reduceSub, BEq.rfl, beq_self_eq_true, Int.reduceToNat]; done)

def D_laws_FnExactShortSpares : DF
  | [x0, x1] => some (.bool (laws_FnExactShortSpares (rdG dStore x0) (rdI x1)), false, [wG eStore dStore x0, wI .i64 x1])
  | _ => none
theorem D_laws_FnExactShortSpares_ok : OkD Try.prog 10 D_laws_FnExactShortSpares := by
  intro xs r z ob h ho
  unfold D_laws_FnExactShortSpares at h
  split at h
  · simp only [Option.some.injEq, Prod.mk.injEq] at h
    obtain ⟨rfl, rfl, rfl⟩ := h
    obtain ⟨h0, h1, _⟩ := ho
    exact Den.sim (laws_FnExactShortSpares_den _ _ ) (simOL_cons (wG_sim h0).1 <| simOL_cons (wI_sim h1).1 <| trivial) (noIdL_cons (wG_sim h0).2 <| noIdL_cons (wI_sim h1).2 <| rfl) rfl
  · cases h
end Go.Ab

namespace Go.Ab
open Go Go.Proofs
theorem short_eq (a : Store) (d : Int) (ha : bwStore a) : impl_ShortSpares a d = spec_ShortSpares a d := by
  unfold impl_ShortSpares spec_ShortSpares
  rw [validStore_eq a ha]
  cases h1 : spec_l29Ok a with
  | false => rfl
  | true =>
    have hok := (specOk_iff a).1 h1
    have hd : impl_isDay d = spec_l03Day d := rfl
    rw [hd]
    cases h2 : spec_l03Day d with
    | false => rfl
    | true =>
      have hb : impl_ShortSpares_b1 a d = spec_ShortSpares_b1 a d := by
        funext i s
        unfold impl_ShortSpares_b1 spec_ShortSpares_b1
        obtain ⟨L, h3, _⟩ := fromDay_eq a (a.Spares.getD i default).Name d hok
        rw [h3]
        rfl
      rw [hb]
      all_goals rfl
theorem law_ShortSpares (a : Store) (d : Int) (ha : bwStore a) : laws_FnExactShortSpares a d = true := by
  unfold laws_FnExactShortSpares
  have hf := laws_szStore_facts a 1048576 (by omega) (by omega) ha
  simp only [laws_toStore_id, laws_eqStore_dec, laws_eqStringS_dec, short_eq a d ha]
  by_cases h : laws_szStore a 1048576 < 0
  · simp [h]
  · have hb := hf.2.2 h
    have b1 : a.Spares.length < 1099511627776 := And.left (And.left hb)
    have b2 : a.Entries.length < 1099511627776 := And.left (And.right hb)
    have hl := impl_ShortSpares_len a d
    rw [short_eq a d ha] at hl
    have hm := laws_heldStringS_mark (spec_ShortSpares a d).1 1 (by omega) (by omega) (by omega)
    have hn : ¬ (laws_markStore a 1).1 < 0 := by
      unfold laws_markStore
      simp only
      rw [laws_markEntryS_k _ _ (by rw [laws_markSpareS_k _ _ (by omega) (by omega) b1]; omega) (by rw [laws_markSpareS_k _ _ (by omega) (by omega) b1]; omega) b2, laws_markSpareS_k _ _ (by omega) (by omega) b1]
      omega
    rw [hm.1]
    simp [h, hm.2, hn]
end Go.Ab

namespace Go.Ab
open Go Go.Proofs Go.Deep Go.ChangeShapes Go.WideShapes Go.ChangeAt Go.RowKit
set_option maxRecDepth 100000
theorem rdT72 : Rd Try.prog 72 eEntry := by
  intro H enc W base sp hd fuel cs x h
  obtain ⟨hl, hf⟩ := rd_fields Try.underlying72 h
  have e0 : Try.prog.cellsOf 72 = 3 := by kernel_rfl
  rw [e0] at hl
  obtain ⟨n0, y0, g0⟩ := hf 0 _ rfl
  have c0 : Try.prog.cellsOf 2 = 1 := by kernel_rfl
  obtain ⟨v0, r0, o0⟩ := (rd_int (k := .i64) Try.underlying2) g0
  replace r0 : RepL W (fun _ => False) ([.int .i64 v0]) noMap ((cs.drop 0).take (Try.prog.cellsOf 2)) [] := r0
  replace o0 : ∀ u ∈ (cs.drop 0).take (Try.prog.cellsOf 2), u.oneCell' = true := o0
  rw [c0] at r0 o0
  obtain ⟨n1, y1, g1⟩ := hf 1 _ rfl
  have c1 : Try.prog.cellsOf 9 = 1 := by kernel_rfl
  obtain ⟨v1, r1, o1⟩ := (rd_str Try.underlying9) g1
  replace r1 : RepL W (fun _ => False) ([.str v1]) noMap ((cs.drop 1).take (Try.prog.cellsOf 9)) [] := r1
  replace o1 : ∀ u ∈ (cs.drop 1).take (Try.prog.cellsOf 9), u.oneCell' = true := o1
  rw [c1] at r1 o1
  obtain ⟨n2, y2, g2⟩ := hf 2 _ rfl
  have c2 : Try.prog.cellsOf 2 = 1 := by kernel_rfl
  obtain ⟨v2, r2, o2⟩ := (rd_int (k := .i64) Try.underlying2) g2
  replace r2 : RepL W (fun _ => False) ([.int .i64 v2]) noMap ((cs.drop 2).take (Try.prog.cellsOf 2)) [] := r2
  replace o2 : ∀ u ∈ (cs.drop 2).take (Try.prog.cellsOf 2), u.oneCell' = true := o2
  rw [c2] at r2 o2
  refine ⟨⟨v0, v1, v2⟩, ?_, ?_⟩
  · exact split_rep (o := 0) (k := 1) r0 (split_rep (o := 1) (k := 1) r1 (split_rep (o := 2) (k := 1) r2 (end_rep (o := 3) (by omega))))
  · exact split_one (o := 0) (k := 1) o0 (split_one (o := 1) (k := 1) o1 (split_one (o := 2) (k := 1) o2 (end_one (o := 3) (by omega))))
theorem rdT23 : Rd Try.prog 23 (fun l : List Entry => [encL 3 eEntry l]) := rd_slice Try.underlying23 (by kernel_rfl) (by decide) rdT72
theorem rdT67 : Rd Try.prog 67 eSpare := by
  intro H enc W base sp hd fuel cs x h
  obtain ⟨hl, hf⟩ := rd_fields Try.underlying67 h
  have e0 : Try.prog.cellsOf 67 = 3 := by kernel_rfl
  rw [e0] at hl
  obtain ⟨n0, y0, g0⟩ := hf 0 _ rfl
  have c0 : Try.prog.cellsOf 9 = 1 := by kernel_rfl
  obtain ⟨v0, r0, o0⟩ := (rd_str Try.underlying9) g0
  replace r0 : RepL W (fun _ => False) ([.str v0]) noMap ((cs.drop 0).take (Try.prog.cellsOf 9)) [] := r0
  replace o0 : ∀ u ∈ (cs.drop 0).take (Try.prog.cellsOf 9), u.oneCell' = true := o0
  rw [c0] at r0 o0
  obtain ⟨n1, y1, g1⟩ := hf 1 _ rfl
  have c1 : Try.prog.cellsOf 2 = 1 := by kernel_rfl
  obtain ⟨v1, r1, o1⟩ := (rd_int (k := .i64) Try.underlying2) g1
  replace r1 : RepL W (fun _ => False) ([.int .i64 v1]) noMap ((cs.drop 1).take (Try.prog.cellsOf 2)) [] := r1
  replace o1 : ∀ u ∈ (cs.drop 1).take (Try.prog.cellsOf 2), u.oneCell' = true := o1
  rw [c1] at r1 o1
  obtain ⟨n2, y2, g2⟩ := hf 2 _ rfl
  have c2 : Try.prog.cellsOf 2 = 1 := by kernel_rfl
  obtain ⟨v2, r2, o2⟩ := (rd_int (k := .i64) Try.underlying2) g2
  replace r2 : RepL W (fun _ => False) ([.int .i64 v2]) noMap ((cs.drop 2).take (Try.prog.cellsOf 2)) [] := r2
  replace o2 : ∀ u ∈ (cs.drop 2).take (Try.prog.cellsOf 2), u.oneCell' = true := o2
  rw [c2] at r2 o2
  refine ⟨⟨v0, v1, v2⟩, ?_, ?_⟩
  · exact split_rep (o := 0) (k := 1) r0 (split_rep (o := 1) (k := 1) r1 (split_rep (o := 2) (k := 1) r2 (end_rep (o := 3) (by omega))))
  · exact split_one (o := 0) (k := 1) o0 (split_one (o := 1) (k := 1) o1 (split_one (o := 2) (k := 1) o2 (end_one (o := 3) (by omega))))
theorem rdT22 : Rd Try.prog 22 (fun l : List Spare => [encL 3 eSpare l]) := rd_slice Try.underlying22 (by kernel_rfl) (by decide) rdT67
theorem rdT25 : Rd Try.prog 25 eStore := by
  intro H enc W base sp hd fuel cs x h
  obtain ⟨hl, hf⟩ := rd_fields Try.underlying25 h
  have e0 : Try.prog.cellsOf 25 = 2 := by kernel_rfl
  rw [e0] at hl
  obtain ⟨n0, y0, g0⟩ := hf 0 _ rfl
  have c0 : Try.prog.cellsOf 22 = 1 := by kernel_rfl
  obtain ⟨v0, r0, o0⟩ := rdT22 g0
  replace r0 : RepL W (fun _ => False) ([encL 3 eSpare v0]) noMap ((cs.drop 0).take (Try.prog.cellsOf 22)) [] := r0
  replace o0 : ∀ u ∈ (cs.drop 0).take (Try.prog.cellsOf 22), u.oneCell' = true := o0
  rw [c0] at r0 o0
  obtain ⟨n1, y1, g1⟩ := hf 1 _ rfl
  have c1 : Try.prog.cellsOf 23 = 1 := by kernel_rfl
  obtain ⟨v1, r1, o1⟩ := rdT23 g1
  replace r1 : RepL W (fun _ => False) ([encL 3 eEntry v1]) noMap ((cs.drop 1).take (Try.prog.cellsOf 23)) [] := r1
  replace o1 : ∀ u ∈ (cs.drop 1).take (Try.prog.cellsOf 23), u.oneCell' = true := o1
  rw [c1] at r1 o1
  refine ⟨⟨v0, v1⟩, ?_, ?_⟩
  · exact split_rep (o := 0) (k := 1) r0 (split_rep (o := 1) (k := 1) r1 (end_rep (o := 2) (by omega)))
  · exact split_one (o := 0) (k := 1) o0 (split_one (o := 1) (k := 1) o1 (end_one (o := 2) (by omega)))
theorem rdT100 : Rd Try.prog 100 eItem := by
  intro H enc W base sp hd fuel cs x h
  obtain ⟨hl, hf⟩ := rd_fields Try.underlying100 h
  have e0 : Try.prog.cellsOf 100 = 2 := by kernel_rfl
  rw [e0] at hl
  obtain ⟨n0, y0, g0⟩ := hf 0 _ rfl
  have c0 : Try.prog.cellsOf 9 = 1 := by kernel_rfl
  obtain ⟨v0, r0, o0⟩ := (rd_str Try.underlying9) g0
  replace r0 : RepL W (fun _ => False) ([.str v0]) noMap ((cs.drop 0).take (Try.prog.cellsOf 9)) [] := r0
  replace o0 : ∀ u ∈ (cs.drop 0).take (Try.prog.cellsOf 9), u.oneCell' = true := o0
  rw [c0] at r0 o0
  obtain ⟨n1, y1, g1⟩ := hf 1 _ rfl
  have c1 : Try.prog.cellsOf 9 = 1 := by kernel_rfl
  obtain ⟨v1, r1, o1⟩ := (rd_str Try.underlying9) g1
  replace r1 : RepL W (fun _ => False) ([.str v1]) noMap ((cs.drop 1).take (Try.prog.cellsOf 9)) [] := r1
  replace o1 : ∀ u ∈ (cs.drop 1).take (Try.prog.cellsOf 9), u.oneCell' = true := o1
  rw [c1] at r1 o1
  refine ⟨⟨v0, v1⟩, ?_, ?_⟩
  · exact split_rep (o := 0) (k := 1) r0 (split_rep (o := 1) (k := 1) r1 (end_rep (o := 2) (by omega)))
  · exact split_one (o := 0) (k := 1) o0 (split_one (o := 1) (k := 1) o1 (end_one (o := 2) (by omega)))
theorem rdT35 : Rd Try.prog 35 (fun l : List Item => [encL 2 eItem l]) := rd_slice Try.underlying35 (by kernel_rfl) (by decide) rdT100
theorem rdT58 : Rd Try.prog 58 (fun l : List Int => [encL 1 eIu8 l]) := rd_slice Try.underlying58 (by kernel_rfl) (by decide) (rd_int (k := .u8) Try.underlying5)
end Go.Ab
