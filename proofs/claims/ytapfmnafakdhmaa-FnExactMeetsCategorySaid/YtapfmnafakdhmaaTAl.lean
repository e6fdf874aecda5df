/- A part of a proof: walks of functions and lemmas of our own. No conditions. -/
import Derived.Test.YtapfmnafakdhmaaTAk
import Derived.Test.YtapfmnafakdhmaaTAi
import Derived.Test.YtapfmnafakdhmaaTAj
import Derived.Deep.Slices
import Derived.Deep.Strs
import Derived.Lib.SmallJoins
import Derived.Test.YtapfmnafakdhmaaRows
set_option linter.unusedVariables false
set_option linter.unusedSimpArgs false
namespace Go.Ab
open Go Go.Proofs

theorem loopR_rel2 {ρ ρ' σ τ : Type} {b1 : Nat → σ → Except ρ σ} {b2 : Nat → τ → Except ρ' τ} (R : Nat → σ → τ → Prop) : ∀ {k i : Nat} {s : σ} {t : τ}, R i s t →
    (∀ j u v, i ≤ j → j < i + k → R j u v → ∃ u' v', b1 j u = .ok u' ∧ b2 j v = .ok v' ∧ R (j + 1) u' v') →
    ∃ s' t', loopR b1 k i s = .ok s' ∧ loopR b2 k i t = .ok t' ∧ R (i + k) s' t'
  | 0, i, s, t, h, _ => ⟨s, t, rfl, rfl, h⟩
  | k + 1, i, s, t, h, hs => by
    obtain ⟨u, v, h1, h2, h3⟩ := hs i s t (Nat.le_refl _) (by omega) h
    obtain ⟨s', t', h4, h5, h6⟩ := loopR_rel2 R (k := k) h3 (fun j u v q1 q2 => hs j u v (by omega) (by omega))
    refine ⟨s', t', ?_, ?_, ?_⟩
    · simp only [loopR, h1]; exact h4
    · simp only [loopR, h2]; exact h5
    · have e : i + (k + 1) = i + 1 + k := by omega
      rw [e]; exact h6

theorem ok_any (a : List Fault) (hl : a.length < 1099511627776) (h : spec_l20Ok a = true) : ∀ j, j < a.length → pS a j = false := by
  unfold spec_l20Ok at h
  rw [loopR_any (b := spec_l20Ok_b1 a) (pS a) false (fun j u _ _ => by
    simp only [spec_l20Ok_b1, pS]
    rw [loopR_any (b := spec_l20Ok_b2 a j u) (qS a j) false (fun k u _ _ => rfl)]
    simp only [Nat.sub_zero, Nat.zero_add]
    generalize ((!(spec_l20One (a.getD j default))) || (decide (0 < (j : Int)) && (!(spec_l20Less (a.getD ((IntKind.wrap .i64 ((j : Int) - 1)).toNat) default) (a.getD j default))))) = c
    generalize (List.range j).any (qS a j) = d
    cases c <;> cases d <;> rfl)] at h
  simp only [Nat.sub_zero, Nat.zero_add] at h
  intro j hj
  cases hp : pS a j with
  | false => rfl
  | true =>
    have : (List.range a.length).any (fun j => pS a j) = true := List.any_eq_true.2 ⟨j, List.mem_range.2 hj, hp⟩
    rw [this] at h
    simp at h

theorem ok_facts (a : List Fault) (hl : a.length < 1099511627776) (h : spec_l20Ok a = true) :
    (∀ j, j < a.length → vF (a.getD j default)) ∧ (∀ i j, i ≤ j → j < a.length → (a.getD i default).From ≤ (a.getD j default).From) := by
  have hp := ok_any a hl h
  have h1 : ∀ j, j < a.length → vF (a.getD j default) := by
    intro j hj
    refine Classical.byContradiction fun hn => ?_
    have := (pS_iff a j (by omega)).2 (.inl hn)
    rw [hp j hj] at this; cases this
  refine ⟨h1, fun i j hij hj => chain_le a j ?_ i hij⟩
  intro q hq hqj
  refine Classical.byContradiction fun hn => ?_
  have := (pS_iff a q (by omega)).2 (.inr (.inl ⟨hq, hn⟩))
  rw [hp q (by omega)] at this; cases this

theorem down_eq (a : List Fault) (x p q : Int) (hl : a.length < 1099511627776) (h : spec_l20Ok a = true) (h1 : 0 ≤ p) (h2 : p < q) (h3 : q ≤ 143999999) :
    impl_down a x p q = spec_l20Down a x p q ∧ 0 ≤ spec_l20Down a x p q ∧ spec_l20Down a x p q ≤ q - p := by
  obtain ⟨hv, hs⟩ := ok_facts a hl h
  unfold impl_down spec_l20Down
  obtain ⟨s, t, e1, e2, hR⟩ := loopR_rel2 (b1 := impl_down_b1 a x p q) (b2 := spec_l20Down_b1 a x p q) (k := a.length - 0) (i := 0) (s := (p, 0)) (t := (0, p))
    (fun j u v => u.2 = v.1 ∧ 0 ≤ v.1 ∧ v.1 ≤ v.2 - p ∧ p ≤ v.2 ∧ v.2 ≤ q ∧ p ≤ u.1 ∧ u.1 ≤ 144000000 ∧ (u.1 = v.2 ∨ (q ≤ u.1 ∧ (v.2 = q ∨ ∀ k, j ≤ k → k < a.length → q ≤ (a.getD k default).From))))
    ⟨rfl, Int.le_refl _, by simp, Int.le_refl _, by simp only; omega, Int.le_refl _, by simp only; omega, .inl rfl⟩ (by
      intro j u v _ hj ⟨r1, r2, r3, r4, r5, r6, r7, r8⟩
      obtain ⟨cu, tu⟩ := u
      obtain ⟨tv, av⟩ := v
      simp only at r1 r2 r3 r4 r5 r6 r7 r8
      subst r1
      have hvj := hv j (by omega)
      have hsj := fun k h1 h2 => hs j k h1 h2
      have hq : (∀ k, j ≤ k → k < a.length → q ≤ (a.getD k default).From) → q ≤ (a.getD j default).From := fun hh => hh j (Nat.le_refl _) (by omega)
      simp only [impl_down_b1, spec_l20Down_b1]
      generalize a.getD j default = f at *
      have he : impl_Fault_end f = endF f := by simp only [impl_Fault_end, endF, Bool.cond_eq_ite, beq_iff_eq]
      have he' : spec_l20End f = endF f := by simp only [spec_l20End, endF, Bool.cond_eq_ite, beq_iff_eq]
      have hb : f.From < endF f ∧ endF f ≤ 144000000 ∧ 0 ≤ f.From := by
        unfold vF at hvj; unfold endF; split <;> omega
      rw [he, he']
      generalize endF f = e at *
      by_cases hA : f.Aid = x
      · subst hA
        simp only [spec_l00Max, spec_l00Min, bne_self_eq_false, beq_self_eq_true, Bool.true_and, Bool.cond_eq_ite, decide_eq_true_eq, IntKind.wrap_i64, Bool.false_eq_true, if_false]
        have hPq : q ≤ f.From → ∀ k, j + 1 ≤ k → k < a.length → q ≤ (a.getD k default).From := fun hh k h1 h2 => by
          have := hsj k (by omega) h2
          omega
        have hk : cu = av ∨ (q ≤ cu ∧ av = q) ∨ (q ≤ cu ∧ q ≤ f.From) := by
          rcases r8 with r8 | ⟨r8, r9 | r9⟩
          · exact .inl r8
          · exact .inr (.inl ⟨r8, r9⟩)
          · exact .inr (.inr ⟨r8, hq r9⟩)
        have hn : ∀ X Y : Int, X = Y ∨ (q ≤ X ∧ (Y = q ∨ q ≤ f.From)) → (X = Y ∨ (q ≤ X ∧ (Y = q ∨ ∀ k, j + 1 ≤ k → k < a.length → q ≤ (a.getD k default).From))) := fun X Y hh => by
          rcases hh with r8 | ⟨r8, r9 | r9⟩
          · exact .inl r8
          · exact .inr ⟨r8, .inl r9⟩
          · exact .inr ⟨r8, .inr (hPq r9)⟩
        clear hq hsj hvj r8 hPq he he' hs hv
        by_cases c1 : cu < e
        · simp only [if_pos c1]
          by_cases c2 : (if f.From < av then av else f.From) < (if q < e then q else e)
          · simp only [if_pos c2]
            refine ⟨_, _, rfl, rfl, ?_⟩
            simp only
            refine ⟨?_, ?_, ?_, ?_, ?_, ?_, ?_, hn _ _ ?_⟩ <;> (clear hn; (repeat' split at *) <;> omega)
          · simp only [if_neg c2]
            refine ⟨_, _, rfl, rfl, ?_⟩
            simp only
            refine ⟨?_, ?_, ?_, ?_, ?_, ?_, ?_, hn _ _ ?_⟩ <;> (clear hn; (repeat' split at *) <;> omega)
        · simp only [if_neg c1]
          have c2 : ¬ (if f.From < av then av else f.From) < (if q < e then q else e) := by
            have hM : (f.From < av ∧ (if f.From < av then av else f.From) = av) ∨ (av ≤ f.From ∧ (if f.From < av then av else f.From) = f.From) := by split <;> simp <;> omega
            have hN : (q < e ∧ (if q < e then q else e) = q) ∨ (e ≤ q ∧ (if q < e then q else e) = e) := by split <;> simp <;> omega
            generalize (if f.From < av then av else f.From) = M at hM ⊢
            generalize (if q < e then q else e) = N at hN ⊢
            omega
          · simp only [if_neg c2]
            refine ⟨_, _, rfl, rfl, ?_⟩
            simp only
            exact ⟨trivial, r2, r3, r4, r5, r6, r7, hn _ _ (by clear hn; omega)⟩
      · have hA1 : (f.Aid == x) = false := by simpa using hA
        have hA2 : (f.Aid != x) = true := by simpa using hA
        simp only [hA1, hA2, Bool.false_and, cond_true, cond_false]
        refine ⟨_, _, rfl, rfl, rfl, r2, r3, r4, r5, r6, r7, ?_⟩
        rcases r8 with r8 | ⟨r8, r9 | r9⟩
        · exact .inl r8
        · exact .inr ⟨r8, .inl r9⟩
        · exact .inr ⟨r8, .inr fun k h1 h2 => r9 k (by omega) h2⟩)
  rw [e1, e2]
  simp only
  obtain ⟨r1, r2, r3, r4, r5, _⟩ := hR
  omega
end Go.Ab

namespace Go.Ab
open Go Go.Proofs
theorem span_eq (a : List Fault) (p q : Int) (hl : a.length < 1099511627776) : impl_spanCode a p q = spec_l20Ask a p q := by
  have h := validFaults_eq a hl
  unfold spec_ValidFaults at h
  unfold impl_spanCode spec_l20Ask
  rw [h]; rfl
theorem ask_facts (a : List Fault) (p q : Int) (h : spec_l20Ask a p q = 0) : spec_l20Ok a = true ∧ 0 ≤ p ∧ p < q ∧ q ≤ 143999999 := by
  unfold spec_l20Ask spec_l20Time spec_l00In at h
  cases h1 : spec_l20Ok a with
  | false => rw [h1] at h; simp at h
  | true =>
    rw [h1] at h
    simp only [Bool.not_true, cond_false, Bool.cond_eq_ite, Bool.or_eq_true, Bool.not_eq_true', Bool.and_eq_false_iff, decide_eq_false_iff_not, decide_eq_true_eq] at h
    split at h
    · simp at h
    · refine ⟨rfl, ?_⟩; omega
theorem downTime_eq (a : List Fault) (x p q : Int) (hl : a.length < 1099511627776) : impl_DownTime a x p q = spec_DownTime a x p q := by
  unfold impl_DownTime spec_DownTime
  rw [span_eq a p q hl]
  by_cases h : spec_l20Ask a p q = 0
  · obtain ⟨h1, h2, h3, h4⟩ := ask_facts a p q h
    rw [(down_eq a x p q hl h1 h2 h3 h4).1]
  · have : (spec_l20Ask a p q != 0) = true := by simpa using h
    rw [this]; rfl
theorem law_DownTime (a : List Fault) (x p q : Int) (hl : a.length < 9223372036854775808) : laws_FnExactDownTime a x p q = true := by
  unfold laws_FnExactDownTime
  have hf := laws_szFaultS_facts a 1048576 (by omega) (by omega) hl
  simp only [laws_toFaultS_id, laws_eqFaultS_dec]
  by_cases h : laws_szFaultS a 1048576 < 0
  · simp [h]
  · have := hf.2.2 h
    rw [downTime_eq a x p q (by omega)]
    simp
end Go.Ab

namespace Go.Ab
open Go Go.Proofs
theorem spec_l20Share_DD : DOk Try.prog (DD [(88, dP D_spec_l20Down)]) := DD_cons D_spec_l20Down_ok.e <| DD_nil _
def spec_l20Share (a0 : (List Fault)) (a1 : Int) (a2 : Int) (a3 : Int) : Int :=
  IntKind.wrap .i64 ((IntKind.wrap .i64 (1000000 * (IntKind.wrap .i64 ((IntKind.wrap .i64 (a3 - a2)) - (spec_l20Down a0 a1 a2 a3))))).tdiv (IntKind.wrap .i64 (a3 - a2)))

theorem spec_l20Share_den (a0 : (List Fault)) (a1 : Int) (a2 : Int) (a3 : Int) (hb0 : a0.length < 1099511627776) (hp0 : 0 ≤ a2) (hp1 : a2 < a3) (hp2 : a3 ≤ 143999999) : Den Try.prog 91 [encL 4 eFault a0, .int .i64 a1, .int .i64 a2, .int .i64 a3] (.int .i64 (spec_l20Share a0 a1 a2 a3)) := by
  generalize hR : spec_l20Share a0 a1 a2 a3 = r
  unfold spec_l20Share at hR
  refine den_intro G_ok Try.func91 (by kernel_rfl) rfl Try.ntmps91 (by rw [Try.results91]) (by simp) rfl ?_
  intro c hc hk
  simp only [pars, Nat.zero_add]
  refine AWP.seq ?_
  refine AWP.regS G_ok spec_l20Share_DD hc (by kernel_rfl) (fun K hK => ?_); simp only [ea, gv, sv, D_spec_l20Down, reduceCtorEq, reduceIte, Nat.reduceBEq, Nat.reduceAdd, Nat.reduceEqDiff, Nat.reduceLT, Nat.reduceLeDiff, Nat.reduceMul, Nat.reduceSub, BEq.rfl, beq_self_eq_true, Int.reduceToNat]
  first | refine hK _ ?_ | refine ⟨by (first | trivial | omega | (simp only [ob, ln, bdv, sv] at *; omega) | ((try clear hK K); (repeat' first | apply And.intro | intro _) <;> first | trivial | omega | assumption | solve_by_elim | (apply bd_getD <;> first | assumption | decide) | (apply bd_subL <;> first | assumption | decide) | (simp only [ob, ln, bdv, sv] at *; first | omega | assumption | (simp_all; done) | grind))), hK _ ?_⟩
  clear hK K
  refine AWP.seq ?_
  refine AWP.regS G_ok spec_l20Share_DD hc (by kernel_rfl) (fun K hK => ?_); simp only [ea, gv, sv, D_spec_l20Down, reduceCtorEq, reduceIte, Nat.reduceBEq, Nat.reduceAdd, Nat.reduceEqDiff, Nat.reduceLT, Nat.reduceLeDiff, Nat.reduceMul, Nat.reduceSub, BEq.rfl, beq_self_eq_true, Int.reduceToNat]
  first | refine hK _ ?_ | refine ⟨by (first | trivial | omega | (simp only [ob, ln, bdv, sv] at *; omega) | ((try clear hK K); (repeat' first | apply And.intro | intro _) <;> first | trivial | omega | assumption | solve_by_elim | (apply bd_getD <;> first | assumption | decide) | (apply bd_subL <;> first | assumption | decide) | (simp only [ob, ln, bdv, sv] at *; first | omega | assumption | (simp_all; done) | grind))), hK _ ?_⟩
  clear hK K
  refine AWP.ret ?_
  subst hR
  (simp only [en, si, ea, gv, sv, hk, reduceCtorEq, reduceIte, Nat.reduceBEq, Nat.reduceAdd, Nat.reduceEqDiff, Nat.reduceLT, Nat.reduceLeDiff, Nat.reduceMul, Nat.reduceSub, BEq.rfl, beq_self_eq_true, Int.reduceToNat]; first | done | trivial | (and_intros <;> first | rfl | trivial | omega | (rw [IntKind.wrap_i64]; omega) | (simp only [ln]; done) | (simp only [ob, ln, bdv, sv] at *; first | omega | grind) | (left; intro j hj; simp only [pw, Bool.cond_eq_ite, Bool.and_eq_true, decide_eq_true_eq]; (repeat' split) <;> simp [putL, NoBorL, NoBor]) | (intro j hj; simp only [pw, Bool.cond_eq_ite, Bool.and_eq_true, decide_eq_true_eq]; (try rw [subL_getD _ _ _ _ (by first | assumption | omega)]); (try rw [clearL_getD _ _ _ _ (by first | omega | (simp only [ob, ln, bdv] at *; omega))]); (repeat' split) <;> first | rfl | omega | exact simOL_refl _ | (simp_all; done) | (simp_all; rfl) | (simp_all; omega) | (simp_all; exact simOL_refl _) | (simp [putL, NoBorL, NoBor]; done))))

def D_spec_l20Share : DF
  | [x0, x1, x2, x3] => some (.int .i64 (spec_l20Share (rdL dFault x0) (rdI x1) (rdI x2) (rdI x3)), false, [wL 4 eFault dFault x0, wI .i64 x1, wI .i64 x2, wI .i64 x3, (rdL dFault x0).length < 1099511627776, 0 ≤ (rdI x2), (rdI x2) < (rdI x3), (rdI x3) ≤ 143999999])
  | _ => none
theorem D_spec_l20Share_ok : OkD Try.prog 91 D_spec_l20Share := by
  intro xs r z ob h ho
  unfold D_spec_l20Share at h
  split at h
  · simp only [Option.some.injEq, Prod.mk.injEq] at h
    obtain ⟨rfl, rfl, rfl⟩ := h
    obtain ⟨h0, h1, h2, h3, hb0, hp0, hp1, hp2, _⟩ := ho
    exact Den.sim (spec_l20Share_den _ _ _ _ hb0 hp0 hp1 hp2) (simOL_cons (wL_sim h0).1 <| simOL_cons (wI_sim h1).1 <| simOL_cons (wI_sim h2).1 <| simOL_cons (wI_sim h3).1 <| trivial) (noIdL_cons (wL_sim h0).2 <| noIdL_cons (wI_sim h1).2 <| noIdL_cons (wI_sim h2).2 <| noIdL_cons (wI_sim h3).2 <| rfl) rfl
  · cases h
end Go.Ab

namespace Go.Ab
open Go Go.Proofs
theorem spec_AvailabilityOf_DD : DOk Try.prog (DD [(87, dP D_spec_l20Ask), (91, dP D_spec_l20Share)]) := DD_cons D_spec_l20Ask_ok.e <| DD_cons D_spec_l20Share_ok.e <| DD_nil _
def spec_AvailabilityOf (a0 : (List Fault)) (a1 : Int) (a2 : Int) (a3 : Int) : (Int × Int) :=
  (bif ((spec_l20Ask a0 a2 a3) != 0) then (0, (spec_l20Ask a0 a2 a3)) else ((spec_l20Share a0 a1 a2 a3), 0))

theorem spec_AvailabilityOf_den (a0 : (List Fault)) (a1 : Int) (a2 : Int) (a3 : Int) (hb0 : a0.length < 1099511627776) : Den Try.prog 46 [encL 4 eFault a0, .int .i64 a1, .int .i64 a2, .int .i64 a3] (.tup [.int .i64 ((spec_AvailabilityOf a0 a1 a2 a3).1), .int .i64 ((spec_AvailabilityOf a0 a1 a2 a3).2)]) := by
  generalize hR : spec_AvailabilityOf a0 a1 a2 a3 = r
  unfold spec_AvailabilityOf at hR
  refine den_intro G_ok Try.func46 (by kernel_rfl) rfl Try.ntmps46 (by rw [Try.results46]) (by simp) rfl ?_
  intro c hc hk
  simp only [pars, Nat.zero_add]
  refine AWP.seq ?_
  refine AWP.regS G_ok spec_AvailabilityOf_DD hc (by kernel_rfl) (fun K hK => ?_); simp only [ea, gv, sv, D_spec_l20Ask, D_spec_l20Share, reduceCtorEq, reduceIte, Nat.reduceBEq, Nat.reduceAdd, Nat.reduceEqDiff, Nat.reduceLT, Nat.reduceLeDiff, Nat.reduceMul, Nat.reduceSub, BEq.rfl, beq_self_eq_true, Int.reduceToNat]
  first | refine hK _ ?_ | refine ⟨by (first | trivial | omega | (simp only [ob, ln, bdv, sv] at *; omega) | ((try clear hK K); (repeat' first | apply And.intro | intro _) <;> first | trivial | omega | assumption | solve_by_elim | (apply bd_getD <;> first | assumption | decide) | (apply bd_subL <;> first | assumption | decide) | (simp only [ob, ln, bdv, sv] at *; first | omega | assumption | (simp_all; done) | grind [spec_l20Ask_ok]))), hK _ ?_⟩
  clear hK K
  refine AWP.seq ?_
  refine AWP.regS G_ok spec_AvailabilityOf_DD hc (by kernel_rfl) (fun K hK => ?_); simp only [ea, gv, sv, D_spec_l20Ask, D_spec_l20Share, reduceCtorEq, reduceIte, Nat.reduceBEq, Nat.reduceAdd, Nat.reduceEqDiff, Nat.reduceLT, Nat.reduceLeDiff, Nat.reduceMul, Nat.reduceSub, BEq.rfl, beq_self_eq_true, Int.reduceToNat]
  first | refine hK _ ?_ | refine ⟨by (first | trivial | omega | (simp only [ob, ln, bdv, sv] at *; omega) | ((try clear hK K); (repeat' first | apply And.intro | intro _) <;> first | trivial | omega | assumption | solve_by_elim | (apply bd_getD <;> first | assumption | decide) | (apply bd_subL <;> first | assumption | decide) | (simp only [ob, ln, bdv, sv] at *; first | omega | assumption | (simp_all; done) | grind [spec_l20Ask_ok]))), hK _ ?_⟩
  clear hK K
  refine AWP.seq ?_
  refine AWP.seq ?_
  refine AWP.regS G_ok spec_AvailabilityOf_DD hc (by kernel_rfl) (fun K hK => ?_); simp only [ea, gv, sv, D_spec_l20Ask, D_spec_l20Share, reduceCtorEq, reduceIte, Nat.reduceBEq, Nat.reduceAdd, Nat.reduceEqDiff, Nat.reduceLT, Nat.reduceLeDiff, Nat.reduceMul, Nat.reduceSub, BEq.rfl, beq_self_eq_true, Int.reduceToNat]
  first | refine hK _ ?_ | refine ⟨by (first | trivial | omega | (simp only [ob, ln, bdv, sv] at *; omega) | ((try clear hK K); (repeat' first | apply And.intro | intro _) <;> first | trivial | omega | assumption | solve_by_elim | (apply bd_getD <;> first | assumption | decide) | (apply bd_subL <;> first | assumption | decide) | (simp only [ob, ln, bdv, sv] at *; first | omega | assumption | (simp_all; done) | grind [spec_l20Ask_ok]))), hK _ ?_⟩
  clear hK K
  refine AWP.cond rfl (fun hb => ?_) (fun hb => ?_)
  · first | simp only [hb, cond_true] at hR | (simp only [*] at hb; simp only [hb, cond_true] at hR)
    refine AWP.seq ?_
    refine AWP.regS G_ok spec_AvailabilityOf_DD hc (by kernel_rfl) (fun K hK => ?_); simp only [ea, gv, sv, D_spec_l20Ask, D_spec_l20Share, reduceCtorEq, reduceIte, Nat.reduceBEq, Nat.reduceAdd, Nat.reduceEqDiff, Nat.reduceLT, Nat.reduceLeDiff, Nat.reduceMul, Nat.reduceSub, BEq.rfl, beq_self_eq_true, Int.reduceToNat]
    first | refine hK _ ?_ | refine ⟨by (first | trivial | omega | (simp only [ob, ln, bdv, sv] at *; omega) | ((try clear hK K); (repeat' first | apply And.intro | intro _) <;> first | trivial | omega | assumption | solve_by_elim | (apply bd_getD <;> first | assumption | decide) | (apply bd_subL <;> first | assumption | decide) | (simp only [ob, ln, bdv, sv] at *; first | omega | assumption | (simp_all; done) | grind [spec_l20Ask_ok]))), hK _ ?_⟩
    clear hK K
    refine AWP.ret ?_
    subst hR
    (simp only [en, si, ea, gv, sv, hk, reduceCtorEq, reduceIte, Nat.reduceBEq, Nat.reduceAdd, Nat.reduceEqDiff, Nat.reduceLT, Nat.reduceLeDiff, Nat.reduceMul, Nat.reduceSub, BEq.rfl, beq_self_eq_true, Int.reduceToNat]; first | done | trivial | (and_intros <;> first | rfl | trivial | omega | (rw [IntKind.wrap_i64]; omega) | (simp only [ln]; done) | (simp only [ob, ln, bdv, sv] at *; first | omega | grind [spec_l20Ask_ok]) | (left; intro j hj; simp only [pw, Bool.cond_eq_ite, Bool.and_eq_true, decide_eq_true_eq]; (repeat' split) <;> simp [putL, NoBorL, NoBor]) | (intro j hj; simp only [pw, Bool.cond_eq_ite, Bool.and_eq_true, decide_eq_true_eq]; (try rw [subL_getD _ _ _ _ (by first | assumption | omega)]); (try rw [clearL_getD _ _ _ _ (by first | omega | (simp only [ob, ln, bdv] at *; omega))]); (repeat' split) <;> first | rfl | omega | exact simOL_refl _ | (simp_all; done) | (simp_all; rfl) | (simp_all; omega) | (simp_all; exact simOL_refl _) | (simp [putL, NoBorL, NoBor]; done))))
  · first | simp only [hb, cond_false] at hR | (simp only [*] at hb; simp only [hb, cond_false] at hR)
    refine AWP.skip ?_
    refine AWP.seq ?_
    refine AWP.regS G_ok spec_AvailabilityOf_DD hc (by kernel_rfl) (fun K hK => ?_); simp only [ea, gv, sv, D_spec_l20Ask, D_spec_l20Share, reduceCtorEq, reduceIte, Nat.reduceBEq, Nat.reduceAdd, Nat.reduceEqDiff, Nat.reduceLT, Nat.reduceLeDiff, Nat.reduceMul, Nat.reduceSub, BEq.rfl, beq_self_eq_true, Int.reduceToNat]
    first | refine hK _ ?_ | refine ⟨by (first | trivial | omega | (simp only [ob, ln, bdv, sv] at *; omega) | ((try clear hK K); (repeat' first | apply And.intro | intro _) <;> first | trivial | omega | assumption | solve_by_elim | (apply bd_getD <;> first | assumption | decide) | (apply bd_subL <;> first | assumption | decide) | (simp only [ob, ln, bdv, sv] at *; first | omega | assumption | (simp_all; done) | grind [spec_l20Ask_ok]))), hK _ ?_⟩
    clear hK K
    refine AWP.ret ?_
    subst hR
    (simp only [en, si, ea, gv, sv, hk, reduceCtorEq, reduceIte, Nat.reduceBEq, Nat.reduceAdd, Nat.reduceEqDiff, Nat.reduceLT, Nat.reduceLeDiff, Nat.reduceMul, Nat.reduceSub, BEq.rfl, beq_self_eq_true, Int.reduceToNat]; first | done | trivial | (and_intros <;> first | rfl | trivial | omega | (rw [IntKind.wrap_i64]; omega) | (simp only [ln]; done) | (simp only [ob, ln, bdv, sv] at *; first | omega | grind [spec_l20Ask_ok]) | (left; intro j hj; simp only [pw, Bool.cond_eq_ite, Bool.and_eq_true, decide_eq_true_eq]; (repeat' split) <;> simp [putL, NoBorL, NoBor]) | (intro j hj; simp only [pw, Bool.cond_eq_ite, Bool.and_eq_true, decide_eq_true_eq]; (try rw [subL_getD _ _ _ _ (by first | assumption | omega)]); (try rw [clearL_getD _ _ _ _ (by first | omega | (simp only [ob, ln, bdv] at *; omega))]); (repeat' split) <;> first | rfl | omega | exact simOL_refl _ | (simp_all; done) | (simp_all; rfl) | (simp_all; omega) | (simp_all; exact simOL_refl _) | (simp [putL, NoBorL, NoBor]; done))))

def D_spec_AvailabilityOf : DF
  | [x0, x1, x2, x3] => some (.tup [.int .i64 ((spec_AvailabilityOf (rdL dFault x0) (rdI x1) (rdI x2) (rdI x3)).1), .int .i64 ((spec_AvailabilityOf (rdL dFault x0) (rdI x1) (rdI x2) (rdI x3)).2)], false, [wL 4 eFault dFault x0, wI .i64 x1, wI .i64 x2, wI .i64 x3, (rdL dFault x0).length < 1099511627776])
  | _ => none
theorem D_spec_AvailabilityOf_ok : OkD Try.prog 46 D_spec_AvailabilityOf := by
  intro xs r z ob h ho
  unfold D_spec_AvailabilityOf at h
  split at h
  · simp only [Option.some.injEq, Prod.mk.injEq] at h
    obtain ⟨rfl, rfl, rfl⟩ := h
    obtain ⟨h0, h1, h2, h3, hb0, _⟩ := ho
    exact Den.sim (spec_AvailabilityOf_den _ _ _ _ hb0) (simOL_cons (wL_sim h0).1 <| simOL_cons (wI_sim h1).1 <| simOL_cons (wI_sim h2).1 <| simOL_cons (wI_sim h3).1 <| trivial) (noIdL_cons (wL_sim h0).2 <| noIdL_cons (wI_sim h1).2 <| noIdL_cons (wI_sim h2).2 <| noIdL_cons (wI_sim h3).2 <| rfl) rfl
  · cases h
end Go.Ab

namespace Go.Ab
open Go Go.Proofs
theorem impl_AvailabilityOf_DD : DOk Try.prog (DD [(89, dP D_impl_spanCode), (90, dP D_impl_down)]) := DD_cons D_impl_spanCode_ok.e <| DD_cons D_impl_down_ok.e <| DD_nil _
def impl_AvailabilityOf (a0 : (List Fault)) (a1 : Int) (a2 : Int) (a3 : Int) : (Int × Int) :=
  (bif ((impl_spanCode a0 a2 a3) != 0) then (0, (impl_spanCode a0 a2 a3)) else (IntKind.wrap .i64 ((IntKind.wrap .i64 (1000000 * (IntKind.wrap .i64 ((IntKind.wrap .i64 (a3 - a2)) - (impl_down a0 a1 a2 a3))))).tdiv (IntKind.wrap .i64 (a3 - a2))), 0))

theorem impl_AvailabilityOf_den (a0 : (List Fault)) (a1 : Int) (a2 : Int) (a3 : Int) (hb0 : a0.length < 1099511627776) : Den Try.prog 47 [encL 4 eFault a0, .int .i64 a1, .int .i64 a2, .int .i64 a3] (.tup [.int .i64 ((impl_AvailabilityOf a0 a1 a2 a3).1), .int .i64 ((impl_AvailabilityOf a0 a1 a2 a3).2)]) := by
  generalize hR : impl_AvailabilityOf a0 a1 a2 a3 = r
  unfold impl_AvailabilityOf at hR
  refine den_intro G_ok Try.func47 (by kernel_rfl) rfl Try.ntmps47 (by rw [Try.results47]) (by simp) rfl ?_
  intro c hc hk
  simp only [pars, Nat.zero_add]
  refine AWP.seq ?_
  refine AWP.regS G_ok impl_AvailabilityOf_DD hc (by kernel_rfl) (fun K hK => ?_); simp only [ea, gv, sv, D_impl_spanCode, D_impl_down, reduceCtorEq, reduceIte, Nat.reduceBEq, Nat.reduceAdd, Nat.reduceEqDiff, Nat.reduceLT, Nat.reduceLeDiff, Nat.reduceMul, Nat.reduceSub, BEq.rfl, beq_self_eq_true, Int.reduceToNat]
  first | refine hK _ ?_ | refine ⟨by (first | trivial | omega | (simp only [ob, ln, bdv, sv] at *; omega) | ((try clear hK K); (repeat' first | apply And.intro | intro _) <;> first | trivial | omega | assumption | solve_by_elim | (apply bd_getD <;> first | assumption | decide) | (apply bd_subL <;> first | assumption | decide) | (simp only [ob, ln, bdv, sv] at *; first | omega | assumption | (simp_all; done) | grind [impl_spanCode_ok]))), hK _ ?_⟩
  clear hK K
  refine AWP.seq ?_
  refine AWP.seq ?_
  refine AWP.regS G_ok impl_AvailabilityOf_DD hc (by kernel_rfl) (fun K hK => ?_); simp only [ea, gv, sv, D_impl_spanCode, D_impl_down, reduceCtorEq, reduceIte, Nat.reduceBEq, Nat.reduceAdd, Nat.reduceEqDiff, Nat.reduceLT, Nat.reduceLeDiff, Nat.reduceMul, Nat.reduceSub, BEq.rfl, beq_self_eq_true, Int.reduceToNat]
  first | refine hK _ ?_ | refine ⟨by (first | trivial | omega | (simp only [ob, ln, bdv, sv] at *; omega) | ((try clear hK K); (repeat' first | apply And.intro | intro _) <;> first | trivial | omega | assumption | solve_by_elim | (apply bd_getD <;> first | assumption | decide) | (apply bd_subL <;> first | assumption | decide) | (simp only [ob, ln, bdv, sv] at *; first | omega | assumption | (simp_all; done) | grind [impl_spanCode_ok]))), hK _ ?_⟩
  clear hK K
  refine AWP.seq ?_
  refine AWP.regS G_ok impl_AvailabilityOf_DD hc (by kernel_rfl) (fun K hK => ?_); simp only [ea, gv, sv, D_impl_spanCode, D_impl_down, reduceCtorEq, reduceIte, Nat.reduceBEq, Nat.reduceAdd, Nat.reduceEqDiff, Nat.reduceLT, Nat.reduceLeDiff, Nat.reduceMul, Nat.reduceSub, BEq.rfl, beq_self_eq_true, Int.reduceToNat]
  first | refine hK _ ?_ | refine ⟨by (first | trivial | omega | (simp only [ob, ln, bdv, sv] at *; omega) | ((try clear hK K); (repeat' first | apply And.intro | intro _) <;> first | trivial | omega | assumption | solve_by_elim | (apply bd_getD <;> first | assumption | decide) | (apply bd_subL <;> first | assumption | decide) | (simp only [ob, ln, bdv, sv] at *; first | omega | assumption | (simp_all; done) | grind [impl_spanCode_ok]))), hK _ ?_⟩
  clear hK K
  refine AWP.cond rfl (fun hb => ?_) (fun hb => ?_)
  · first | simp only [hb, cond_true] at hR | (simp only [*] at hb; simp only [hb, cond_true] at hR)
    refine AWP.seq ?_
    refine AWP.regS G_ok impl_AvailabilityOf_DD hc (by kernel_rfl) (fun K hK => ?_); simp only [ea, gv, sv, D_impl_spanCode, D_impl_down, reduceCtorEq, reduceIte, Nat.reduceBEq, Nat.reduceAdd, Nat.reduceEqDiff, Nat.reduceLT, Nat.reduceLeDiff, Nat.reduceMul, Nat.reduceSub, BEq.rfl, beq_self_eq_true, Int.reduceToNat]
    first | refine hK _ ?_ | refine ⟨by (first | trivial | omega | (simp only [ob, ln, bdv, sv] at *; omega) | ((try clear hK K); (repeat' first | apply And.intro | intro _) <;> first | trivial | omega | assumption | solve_by_elim | (apply bd_getD <;> first | assumption | decide) | (apply bd_subL <;> first | assumption | decide) | (simp only [ob, ln, bdv, sv] at *; first | omega | assumption | (simp_all; done) | grind [impl_spanCode_ok]))), hK _ ?_⟩
    clear hK K
    refine AWP.ret ?_
    subst hR
    (simp only [en, si, ea, gv, sv, hk, reduceCtorEq, reduceIte, Nat.reduceBEq, Nat.reduceAdd, Nat.reduceEqDiff, Nat.reduceLT, Nat.reduceLeDiff, Nat.reduceMul, Nat.reduceSub, BEq.rfl, beq_self_eq_true, Int.reduceToNat]; first | done | trivial | (and_intros <;> first | rfl | trivial | omega | (rw [IntKind.wrap_i64]; omega) | (simp only [ln]; done) | (simp only [ob, ln, bdv, sv] at *; first | omega | grind [impl_spanCode_ok]) | (left; intro j hj; simp only [pw, Bool.cond_eq_ite, Bool.and_eq_true, decide_eq_true_eq]; (repeat' split) <;> simp [putL, NoBorL, NoBor]) | (intro j hj; simp only [pw, Bool.cond_eq_ite, Bool.and_eq_true, decide_eq_true_eq]; (try rw [subL_getD _ _ _ _ (by first | assumption | omega)]); (try rw [clearL_getD _ _ _ _ (by first | omega | (simp only [ob, ln, bdv] at *; omega))]); (repeat' split) <;> first | rfl | omega | exact simOL_refl _ | (simp_all; done) | (simp_all; rfl) | (simp_all; omega) | (simp_all; exact simOL_refl _) | (simp [putL, NoBorL, NoBor]; done))))
  · first | simp only [hb, cond_false] at hR | (simp only [*] at hb; simp only [hb, cond_false] at hR)
    refine AWP.skip ?_
    refine AWP.seq ?_
    refine AWP.regS G_ok impl_AvailabilityOf_DD hc (by kernel_rfl) (fun K hK => ?_); simp only [ea, gv, sv, D_impl_spanCode, D_impl_down, reduceCtorEq, reduceIte, Nat.reduceBEq, Nat.reduceAdd, Nat.reduceEqDiff, Nat.reduceLT, Nat.reduceLeDiff, Nat.reduceMul, Nat.reduceSub, BEq.rfl, beq_self_eq_true, Int.reduceToNat]
    first | refine hK _ ?_ | refine ⟨by (first | trivial | omega | (simp only [ob, ln, bdv, sv] at *; omega) | ((try clear hK K); (repeat' first | apply And.intro | intro _) <;> first | trivial | omega | assumption | solve_by_elim | (apply bd_getD <;> first | assumption | decide) | (apply bd_subL <;> first | assumption | decide) | (simp only [ob, ln, bdv, sv] at *; first | omega | assumption | (simp_all; done) | grind [impl_spanCode_ok]))), hK _ ?_⟩
    clear hK K
    refine AWP.seq ?_
    refine AWP.regS G_ok impl_AvailabilityOf_DD hc (by kernel_rfl) (fun K hK => ?_); simp only [ea, gv, sv, D_impl_spanCode, D_impl_down, reduceCtorEq, reduceIte, Nat.reduceBEq, Nat.reduceAdd, Nat.reduceEqDiff, Nat.reduceLT, Nat.reduceLeDiff, Nat.reduceMul, Nat.reduceSub, BEq.rfl, beq_self_eq_true, Int.reduceToNat]
    first | refine hK _ ?_ | refine ⟨by (first | trivial | omega | (simp only [ob, ln, bdv, sv] at *; omega) | ((try clear hK K); (repeat' first | apply And.intro | intro _) <;> first | trivial | omega | assumption | solve_by_elim | (apply bd_getD <;> first | assumption | decide) | (apply bd_subL <;> first | assumption | decide) | (simp only [ob, ln, bdv, sv] at *; first | omega | assumption | (simp_all; done) | grind [impl_spanCode_ok]))), hK _ ?_⟩
    clear hK K
    refine AWP.ret ?_
    subst hR
    (simp only [en, si, ea, gv, sv, hk, reduceCtorEq, reduceIte, Nat.reduceBEq, Nat.reduceAdd, Nat.reduceEqDiff, Nat.reduceLT, Nat.reduceLeDiff, Nat.reduceMul, Nat.reduceSub, BEq.rfl, beq_self_eq_true, Int.reduceToNat]; first | done | trivial | (and_intros <;> first | rfl | trivial | omega | (rw [IntKind.wrap_i64]; omega) | (simp only [ln]; done) | (simp only [ob, ln, bdv, sv] at *; first | omega | grind [impl_spanCode_ok]) | (left; intro j hj; simp only [pw, Bool.cond_eq_ite, Bool.and_eq_true, decide_eq_true_eq]; (repeat' split) <;> simp [putL, NoBorL, NoBor]) | (intro j hj; simp only [pw, Bool.cond_eq_ite, Bool.and_eq_true, decide_eq_true_eq]; (try rw [subL_getD _ _ _ _ (by first | assumption | omega)]); (try rw [clearL_getD _ _ _ _ (by first | omega | (simp only [ob, ln, bdv] at *; omega))]); (repeat' split) <;> first | rfl | omega | exact simOL_refl _ | (simp_all; done) | (simp_all; rfl) | (simp_all; omega) | (simp_all; exact simOL_refl _) | (simp [putL, NoBorL, NoBor]; done))))

def D_impl_AvailabilityOf : DF
  | [x0, x1, x2, x3] => some (.tup [.int .i64 ((impl_AvailabilityOf (rdL dFault x0) (rdI x1) (rdI x2) (rdI x3)).1), .int .i64 ((impl_AvailabilityOf (rdL dFault x0) (rdI x1) (rdI x2) (rdI x3)).2)], false, [wL 4 eFault dFault x0, wI .i64 x1, wI .i64 x2, wI .i64 x3, (rdL dFault x0).length < 1099511627776])
  | _ => none
theorem D_impl_AvailabilityOf_ok : OkD Try.prog 47 D_impl_AvailabilityOf := by
  intro xs r z ob h ho
  unfold D_impl_AvailabilityOf at h
  split at h
  · simp only [Option.some.injEq, Prod.mk.injEq] at h
    obtain ⟨rfl, rfl, rfl⟩ := h
    obtain ⟨h0, h1, h2, h3, hb0, _⟩ := ho
    exact Den.sim (impl_AvailabilityOf_den _ _ _ _ hb0) (simOL_cons (wL_sim h0).1 <| simOL_cons (wI_sim h1).1 <| simOL_cons (wI_sim h2).1 <| simOL_cons (wI_sim h3).1 <| trivial) (noIdL_cons (wL_sim h0).2 <| noIdL_cons (wI_sim h1).2 <| noIdL_cons (wI_sim h2).2 <| noIdL_cons (wI_sim h3).2 <| rfl) rfl
  · cases h
end Go.Ab

namespace Go.Ab
open Go Go.Proofs
theorem laws_FnExactAvailabilityOf_DD : DOk Try.prog (DD [(14, dP D_laws_szFaultS), (16, dP D_laws_toFaultS), (18, dP D_laws_eqFaultS), (46, dP D_spec_AvailabilityOf), (47, dP D_impl_AvailabilityOf)]) := DD_cons D_laws_szFaultS_ok.e <| DD_cons D_laws_toFaultS_ok.e <| DD_cons D_laws_eqFaultS_ok.e <| DD_cons D_spec_AvailabilityOf_ok.e <| DD_cons D_impl_AvailabilityOf_ok.e <| DD_nil _
def laws_FnExactAvailabilityOf (a0 : (List Fault)) (a1 : Int) (a2 : Int) (a3 : Int) : Bool :=
  (bif decide ((laws_szFaultS a0 1048576) < 0) then true else (bif ((((impl_AvailabilityOf (laws_toFaultS a0) a1 a2 a3).1) != ((spec_AvailabilityOf (laws_toFaultS a0) a1 a2 a3).1)) || (((impl_AvailabilityOf (laws_toFaultS a0) a1 a2 a3).2) != ((spec_AvailabilityOf (laws_toFaultS a0) a1 a2 a3).2))) then false else (bif (!(laws_eqFaultS (laws_toFaultS a0) (laws_toFaultS a0))) then false else true)))

theorem laws_FnExactAvailabilityOf_den (a0 : (List Fault)) (a1 : Int) (a2 : Int) (a3 : Int) (hb0 : a0.length < 9223372036854775808) : Den Try.prog 11 [encL 4 eFault a0, .int .i64 a1, .int .i64 a2, .int .i64 a3] (.bool (laws_FnExactAvailabilityOf a0 a1 a2 a3)) := by
  generalize hR : laws_FnExactAvailabilityOf a0 a1 a2 a3 = r
  unfold laws_FnExactAvailabilityOf at hR
  refine den_intro G_ok Try.func11 (by kernel_rfl) rfl Try.ntmps11 (by rw [Try.results11]) (by simp) rfl ?_
  intro c hc hk
  simp only [pars, Nat.zero_add]
  have hf0 := laws_szFaultS_facts a0 (1048576) (by omega) (by omega) hb0
  refine AWP.seq ?_
  refine AWP.regS G_ok laws_FnExactAvailabilityOf_DD hc (by kernel_rfl) (fun K hK => ?_); simp only [ea, gv, sv, D_laws_szFaultS, D_laws_toFaultS, D_laws_eqFaultS, D_spec_AvailabilityOf, D_impl_AvailabilityOf, reduceCtorEq, reduceIte, Nat.reduceBEq, Nat.reduceAdd, Nat.reduceEqDiff, Nat.reduceLT, Nat.reduceLeDiff, Nat.reduceMul, Nat.reduceSub, BEq.rfl, beq_self_eq_true, Int.reduceToNat]
  first | refine hK _ ?_ | refine ⟨by (first | trivial | omega | (simp only [ob, ln, bdv, laws_toFaultS_id, sv] at *; omega) | ((try clear hK K); (repeat' first | apply And.intro | intro _) <;> first | trivial | omega | assumption | solve_by_elim | (apply bd_getD <;> first | assumption | decide) | (apply bd_subL <;> first | assumption | decide) | (simp only [ob, ln, bdv, laws_toFaultS_id, sv] at *; first | omega | assumption | (simp_all; done) | grind))), hK _ ?_⟩
  clear hK K
  refine AWP.seq ?_
  refine AWP.regS G_ok laws_FnExactAvailabilityOf_DD hc (by kernel_rfl) (fun K hK => ?_); simp only [ea, gv, sv, D_laws_szFaultS, D_laws_toFaultS, D_laws_eqFaultS, D_spec_AvailabilityOf, D_impl_AvailabilityOf, reduceCtorEq, reduceIte, Nat.reduceBEq, Nat.reduceAdd, Nat.reduceEqDiff, Nat.reduceLT, Nat.reduceLeDiff, Nat.reduceMul, Nat.reduceSub, BEq.rfl, beq_self_eq_true, Int.reduceToNat]
  first | refine hK _ ?_ | refine ⟨by (first | trivial | omega | (simp only [ob, ln, bdv, laws_toFaultS_id, sv] at *; omega) | ((try clear hK K); (repeat' first | apply And.intro | intro _) <;> first | trivial | omega | assumption | solve_by_elim | (apply bd_getD <;> first | assumption | decide) | (apply bd_subL <;> first | assumption | decide) | (simp only [ob, ln, bdv, laws_toFaultS_id, sv] at *; first | omega | assumption | (simp_all; done) | grind))), hK _ ?_⟩
  clear hK K
  refine AWP.seq ?_
  refine AWP.regS G_ok laws_FnExactAvailabilityOf_DD hc (by kernel_rfl) (fun K hK => ?_); simp only [ea, gv, sv, D_laws_szFaultS, D_laws_toFaultS, D_laws_eqFaultS, D_spec_AvailabilityOf, D_impl_AvailabilityOf, reduceCtorEq, reduceIte, Nat.reduceBEq, Nat.reduceAdd, Nat.reduceEqDiff, Nat.reduceLT, Nat.reduceLeDiff, Nat.reduceMul, Nat.reduceSub, BEq.rfl, beq_self_eq_true, Int.reduceToNat]
  first | refine hK _ ?_ | refine ⟨by (first | trivial | omega | (simp only [ob, ln, bdv, laws_toFaultS_id, sv] at *; omega) | ((try clear hK K); (repeat' first | apply And.intro | intro _) <;> first | trivial | omega | assumption | solve_by_elim | (apply bd_getD <;> first | assumption | decide) | (apply bd_subL <;> first | assumption | decide) | (simp only [ob, ln, bdv, laws_toFaultS_id, sv] at *; first | omega | assumption | (simp_all; done) | grind))), hK _ ?_⟩
  clear hK K
  refine AWP.seq ?_
  refine AWP.seq ?_
  refine AWP.regS G_ok laws_FnExactAvailabilityOf_DD hc (by kernel_rfl) (fun K hK => ?_); simp only [ea, gv, sv, D_laws_szFaultS, D_laws_toFaultS, D_laws_eqFaultS, D_spec_AvailabilityOf, D_impl_AvailabilityOf, reduceCtorEq, reduceIte, Nat.reduceBEq, Nat.reduceAdd, Nat.reduceEqDiff, Nat.reduceLT, Nat.reduceLeDiff, Nat.reduceMul, Nat.reduceSub, BEq.rfl, beq_self_eq_true, Int.reduceToNat]
  first | refine hK _ ?_ | refine ⟨by (first | trivial | omega | (simp only [ob, ln, bdv, laws_toFaultS_id, sv] at *; omega) | ((try clear hK K); (repeat' first | apply And.intro | intro _) <;> first | trivial | omega | assumption | solve_by_elim | (apply bd_getD <;> first | assumption | decide) | (apply bd_subL <;> first | assumption | decide) | (simp only [ob, ln, bdv, laws_toFaultS_id, sv] at *; first | omega | assumption | (simp_all; done) | grind))), hK _ ?_⟩
  clear hK K
  refine AWP.cond rfl (fun hb => ?_) (fun hb => ?_)
  · first | simp only [hb, cond_true] at hR | (simp only [*] at hb; simp only [hb, cond_true] at hR)
    refine AWP.seq ?_
    refine AWP.regS G_ok laws_FnExactAvailabilityOf_DD hc (by kernel_rfl) (fun K hK => ?_); simp only [ea, gv, sv, D_laws_szFaultS, D_laws_toFaultS, D_laws_eqFaultS, D_spec_AvailabilityOf, D_impl_AvailabilityOf, reduceCtorEq, reduceIte, Nat.reduceBEq, Nat.reduceAdd, Nat.reduceEqDiff, Nat.reduceLT, Nat.reduceLeDiff, Nat.reduceMul, Nat.reduceSub, BEq.rfl, beq_self_eq_true, Int.reduceToNat]
    first | refine hK _ ?_ | refine ⟨by (first | trivial | omega | (simp only [ob, ln, bdv, laws_toFaultS_id, sv] at *; omega) | ((try clear hK K); (repeat' first | apply And.intro | intro _) <;> first | trivial | omega | assumption | solve_by_elim | (apply bd_getD <;> first | assumption | decide) | (apply bd_subL <;> first | assumption | decide) | (simp only [ob, ln, bdv, laws_toFaultS_id, sv] at *; first | omega | assumption | (simp_all; done) | grind))), hK _ ?_⟩
    clear hK K
    refine AWP.ret ?_
    subst hR
    (simp only [en, si, ea, gv, sv, hk, reduceCtorEq, reduceIte, Nat.reduceBEq, Nat.reduceAdd, Nat.reduceEqDiff, Nat.reduceLT, Nat.reduceLeDiff, Nat.reduceMul, Nat.reduceSub, BEq.rfl, beq_self_eq_true, Int.reduceToNat]; first | done | trivial | (and_intros <;> first | rfl | trivial | omega | (rw [IntKind.wrap_i64]; omega) | (simp only [ln]; done) | (simp only [ob, ln, bdv, laws_toFaultS_id, sv] at *; first | omega | grind) | (left; intro j hj; simp only [pw, Bool.cond_eq_ite, Bool.and_eq_true, decide_eq_true_eq]; (repeat' split) <;> simp [putL, NoBorL, NoBor]) | (intro j hj; simp only [pw, Bool.cond_eq_ite, Bool.and_eq_true, decide_eq_true_eq]; (try rw [subL_getD _ _ _ _ (by first | assumption | omega)]); (try rw [clearL_getD _ _ _ _ (by first | omega | (simp only [ob, ln, bdv] at *; omega))]); (repeat' split) <;> first | rfl | omega | exact simOL_refl _ | (simp_all; done) | (simp_all; rfl) | (simp_all; omega) | (simp_all; exact simOL_refl _) | (simp [putL, NoBorL, NoBor]; done))))
  · first | simp only [hb, cond_false] at hR | (simp only [*] at hb; simp only [hb, cond_false] at hR)
    refine AWP.skip ?_
    refine AWP.seq ?_
    refine AWP.regS G_ok laws_FnExactAvailabilityOf_DD hc (by kernel_rfl) (fun K hK => ?_); simp only [ea, gv, sv, D_laws_szFaultS, D_laws_toFaultS, D_laws_eqFaultS, D_spec_AvailabilityOf, D_impl_AvailabilityOf, reduceCtorEq, reduceIte, Nat.reduceBEq, Nat.reduceAdd, Nat.reduceEqDiff, Nat.reduceLT, Nat.reduceLeDiff, Nat.reduceMul, Nat.reduceSub, BEq.rfl, beq_self_eq_true, Int.reduceToNat]
    first | refine hK _ ?_ | refine ⟨by (first | trivial | omega | (simp only [ob, ln, bdv, laws_toFaultS_id, sv] at *; omega) | ((try clear hK K); (repeat' first | apply And.intro | intro _) <;> first | trivial | omega | assumption | solve_by_elim | (apply bd_getD <;> first | assumption | decide) | (apply bd_subL <;> first | assumption | decide) | (simp only [ob, ln, bdv, laws_toFaultS_id, sv] at *; first | omega | assumption | (simp_all; done) | grind))), hK _ ?_⟩
    clear hK K
    refine AWP.seq ?_
    refine AWP.regS G_ok laws_FnExactAvailabilityOf_DD hc (by kernel_rfl) (fun K hK => ?_); simp only [ea, gv, sv, D_laws_szFaultS, D_laws_toFaultS, D_laws_eqFaultS, D_spec_AvailabilityOf, D_impl_AvailabilityOf, reduceCtorEq, reduceIte, Nat.reduceBEq, Nat.reduceAdd, Nat.reduceEqDiff, Nat.reduceLT, Nat.reduceLeDiff, Nat.reduceMul, Nat.reduceSub, BEq.rfl, beq_self_eq_true, Int.reduceToNat]
    first | refine hK _ ?_ | refine ⟨by (first | trivial | omega | (simp only [ob, ln, bdv, laws_toFaultS_id, sv] at *; omega) | ((try clear hK K); (repeat' first | apply And.intro | intro _) <;> first | trivial | omega | assumption | solve_by_elim | (apply bd_getD <;> first | assumption | decide) | (apply bd_subL <;> first | assumption | decide) | (simp only [ob, ln, bdv, laws_toFaultS_id, sv] at *; first | omega | assumption | (simp_all; done) | grind))), hK _ ?_⟩
    clear hK K
    refine AWP.seq ?_
    refine AWP.regS G_ok laws_FnExactAvailabilityOf_DD hc (by kernel_rfl) (fun K hK => ?_); simp only [ea, gv, sv, D_laws_szFaultS, D_laws_toFaultS, D_laws_eqFaultS, D_spec_AvailabilityOf, D_impl_AvailabilityOf, reduceCtorEq, reduceIte, Nat.reduceBEq, Nat.reduceAdd, Nat.reduceEqDiff, Nat.reduceLT, Nat.reduceLeDiff, Nat.reduceMul, Nat.reduceSub, BEq.rfl, beq_self_eq_true, Int.reduceToNat]
    first | refine hK _ ?_ | refine ⟨by (first | trivial | omega | (simp only [ob, ln, bdv, laws_toFaultS_id, sv] at *; omega) | ((try clear hK K); (repeat' first | apply And.intro | intro _) <;> first | trivial | omega | assumption | solve_by_elim | (apply bd_getD <;> first | assumption | decide) | (apply bd_subL <;> first | assumption | decide) | (simp only [ob, ln, bdv, laws_toFaultS_id, sv] at *; first | omega | assumption | (simp_all; done) | grind))), hK _ ?_⟩
    clear hK K
    refine AWP.seq ?_
    refine AWP.seq ?_
    refine AWP.regS G_ok laws_FnExactAvailabilityOf_DD hc (by kernel_rfl) (fun K hK => ?_); simp only [ea, gv, sv, D_laws_szFaultS, D_laws_toFaultS, D_laws_eqFaultS, D_spec_AvailabilityOf, D_impl_AvailabilityOf, reduceCtorEq, reduceIte, Nat.reduceBEq, Nat.reduceAdd, Nat.reduceEqDiff, Nat.reduceLT, Nat.reduceLeDiff, Nat.reduceMul, Nat.reduceSub, BEq.rfl, beq_self_eq_true, Int.reduceToNat]
    first | refine hK _ ?_ | refine ⟨by (first | trivial | omega | (simp only [ob, ln, bdv, laws_toFaultS_id, sv] at *; omega) | ((try clear hK K); (repeat' first | apply And.intro | intro _) <;> first | trivial | omega | assumption | solve_by_elim | (apply bd_getD <;> first | assumption | decide) | (apply bd_subL <;> first | assumption | decide) | (simp only [ob, ln, bdv, laws_toFaultS_id, sv] at *; first | omega | assumption | (simp_all; done) | grind))), hK _ ?_⟩
    clear hK K
    refine AWP.cond rfl (fun hb => ?_) (fun hb => ?_)
    · first | simp only [hb, cond_true] at hR | (simp only [*] at hb; simp only [hb, cond_true] at hR)
      refine AWP.seq ?_
      refine AWP.regS G_ok laws_FnExactAvailabilityOf_DD hc (by kernel_rfl) (fun K hK => ?_); simp only [ea, gv, sv, D_laws_szFaultS, D_laws_toFaultS, D_laws_eqFaultS, D_spec_AvailabilityOf, D_impl_AvailabilityOf, reduceCtorEq, reduceIte, Nat.reduceBEq, Nat.reduceAdd, Nat.reduceEqDiff, Nat.reduceLT, Nat.reduceLeDiff, Nat.reduceMul, Nat.reduceSub, BEq.rfl, beq_self_eq_true, Int.reduceToNat]
      first | refine hK _ ?_ | refine ⟨by (first | trivial | omega | (simp only [ob, ln, bdv, laws_toFaultS_id, sv] at *; omega) | ((try clear hK K); (repeat' first | apply And.intro | intro _) <;> first | trivial | omega | assumption | solve_by_elim | (apply bd_getD <;> first | assumption | decide) | (apply bd_subL <;> first | assumption | decide) | (simp only [ob, ln, bdv, laws_toFaultS_id, sv] at *; first | omega | assumption | (simp_all; done) | grind))), hK _ ?_⟩
      clear hK K
      refine AWP.ret ?_
      subst hR
      (simp only [en, si, ea, gv, sv, hk, reduceCtorEq, reduceIte, Nat.reduceBEq, Nat.reduceAdd, Nat.reduceEqDiff, Nat.reduceLT, Nat.reduceLeDiff, Nat.reduceMul, Nat.reduceSub, BEq.rfl, beq_self_eq_true, Int.reduceToNat]; first | done | trivial | (and_intros <;> first | rfl | trivial | omega | (rw [IntKind.wrap_i64]; omega) | (simp only [ln]; done) | (simp only [ob, ln, bdv, laws_toFaultS_id, sv] at *; first | omega | grind) | (left; intro j hj; simp only [pw, Bool.cond_eq_ite, Bool.and_eq_true, decide_eq_true_eq]; (repeat' split) <;> simp [putL, NoBorL, NoBor]) | (intro j hj; simp only [pw, Bool.cond_eq_ite, Bool.and_eq_true, decide_eq_true_eq]; (try rw [subL_getD _ _ _ _ (by first | assumption | omega)]); (try rw [clearL_getD _ _ _ _ (by first | omega | (simp only [ob, ln, bdv] at *; omega))]); (repeat' split) <;> first | rfl | omega | exact simOL_refl _ | (simp_all; done) | (simp_all; rfl) | (simp_all; omega) | (simp_all; exact simOL_refl _) | (simp [putL, NoBorL, NoBor]; done))))
    · first | simp only [hb, cond_false] at hR | (simp only [*] at hb; simp only [hb, cond_false] at hR)
      refine AWP.skip ?_
      refine AWP.seq ?_
      refine AWP.seq ?_
      refine AWP.regS G_ok laws_FnExactAvailabilityOf_DD hc (by kernel_rfl) (fun K hK => ?_); simp only [ea, gv, sv, D_laws_szFaultS, D_laws_toFaultS, D_laws_eqFaultS, D_spec_AvailabilityOf, D_impl_AvailabilityOf, reduceCtorEq, reduceIte, Nat.reduceBEq, Nat.reduceAdd, Nat.reduceEqDiff, Nat.reduceLT, Nat.reduceLeDiff, Nat.reduceMul, Nat.reduceSub, BEq.rfl, beq_self_eq_true, Int.reduceToNat]
      first | refine hK _ ?_ | refine ⟨by (first | trivial | omega | (simp only [ob, ln, bdv, laws_toFaultS_id, sv] at *; omega) | ((try clear hK K); (repeat' first | apply And.intro | intro _) <;> first | trivial | omega | assumption | solve_by_elim | (apply bd_getD <;> first | assumption | decide) | (apply bd_subL <;> first | assumption | decide) | (simp only [ob, ln, bdv, laws_toFaultS_id, sv] at *; first | omega | assumption | (simp_all; done) | grind))), hK _ ?_⟩
      clear hK K
      refine AWP.cond rfl (fun hb => ?_) (fun hb => ?_)
      · first | simp only [hb, cond_true] at hR | (simp only [*] at hb; simp only [hb, cond_true] at hR)
        refine AWP.seq ?_
        refine AWP.regS G_ok laws_FnExactAvailabilityOf_DD hc (by kernel_rfl) (fun K hK => ?_); simp only [ea, gv, sv, D_laws_szFaultS, D_laws_toFaultS, D_laws_eqFaultS, D_spec_AvailabilityOf, D_impl_AvailabilityOf, reduceCtorEq, reduceIte, Nat.reduceBEq, Nat.reduceAdd, Nat.reduceEqDiff, Nat.reduceLT, Nat.reduceLeDiff, Nat.reduceMul, Nat.reduceSub, BEq.rfl, beq_self_eq_true, Int.reduceToNat]
        first | refine hK _ ?_ | refine ⟨by (first | trivial | omega | (simp only [ob, ln, bdv, laws_toFaultS_id, sv] at *; omega) | ((try clear hK K); (repeat' first | apply And.intro | intro _) <;> first | trivial | omega | assumption | solve_by_elim | (apply bd_getD <;> first | assumption | decide) | (apply bd_subL <;> first | assumption | decide) | (simp only [ob, ln, bdv, laws_toFaultS_id, sv] at *; first | omega | assumption | (simp_all; done) | grind))), hK _ ?_⟩
        clear hK K
        refine AWP.ret ?_
        subst hR
        (simp only [en, si, ea, gv, sv, hk, reduceCtorEq, reduceIte, Nat.reduceBEq, Nat.reduceAdd, Nat.reduceEqDiff, Nat.reduceLT, Nat.reduceLeDiff, Nat.reduceMul, Nat.reduceSub, BEq.rfl, beq_self_eq_true, Int.reduceToNat]; first | done | trivial | (and_intros <;> first | rfl | trivial | omega | (rw [IntKind.wrap_i64]; omega) | (simp only [ln]; done) | (simp only [ob, ln, bdv, laws_toFaultS_id, sv] at *; first | omega | grind) | (left; intro j hj; simp only [pw, Bool.cond_eq_ite, Bool.and_eq_true, decide_eq_true_eq]; (repeat' split) <;> simp [putL, NoBorL, NoBor]) | (intro j hj; simp only [pw, Bool.cond_eq_ite, Bool.and_eq_true, decide_eq_true_eq]; (try rw [subL_getD _ _ _ _ (by first | assumption | omega)]); (try rw [clearL_getD _ _ _ _ (by first | omega | (simp only [ob, ln, bdv] at *; omega))]); (repeat' split) <;> first | rfl | omega | exact simOL_refl _ | (simp_all; done) | (simp_all; rfl) | (simp_all; omega) | (simp_all; exact simOL_refl _) | (simp [putL, NoBorL, NoBor]; done))))
      · first | simp only [hb, cond_false] at hR | (simp only [*] at hb; simp only [hb, cond_false] at hR)
        refine AWP.skip ?_
        refine AWP.seq ?_
        refine AWP.regS G_ok laws_FnExactAvailabilityOf_DD hc (by kernel_rfl) (fun K hK => ?_); simp only [ea, gv, sv, D_laws_szFaultS, D_laws_toFaultS, D_laws_eqFaultS, D_spec_AvailabilityOf, D_impl_AvailabilityOf, reduceCtorEq, reduceIte, Nat.reduceBEq, Nat.reduceAdd, Nat.reduceEqDiff, Nat.reduceLT, Nat.reduceLeDiff, Nat.reduceMul, Nat.reduceSub, BEq.rfl, beq_self_eq_true, Int.reduceToNat]
        first | refine hK _ ?_ | refine ⟨by (first | trivial | omega | (simp only [ob, ln, bdv, laws_toFaultS_id, sv] at *; omega) | ((try clear hK K); (repeat' first | apply And.intro | intro _) <;> first | trivial | omega | assumption | solve_by_elim | (apply bd_getD <;> first | assumption | decide) | (apply bd_subL <;> first | assumption | decide) | (simp only [ob, ln, bdv, laws_toFaultS_id, sv] at *; first | omega | assumption | (simp_all; done) | grind))), hK _ ?_⟩
        clear hK K
        refine AWP.ret ?_
        subst hR
        (simp only [en, si, ea, gv, sv, hk, reduceCtorEq, reduceIte, Nat.reduceBEq, Nat.reduceAdd, Nat.reduceEqDiff, Nat.reduceLT, Nat.reduceLeDiff, Nat.reduceMul, Nat.reduceSub, BEq.rfl, beq_self_eq_true, Int.reduceToNat]; first | done | trivial | (and_intros <;> first | rfl | trivial | omega | (rw [IntKind.wrap_i64]; omega) | (simp only [ln]; done) | (simp only [ob, ln, bdv, laws_toFaultS_id, sv] at *; first | omega | grind) | (left; intro j hj; simp only [pw, Bool.cond_eq_ite, Bool.and_eq_true, decide_eq_true_eq]; (repeat' split) <;> simp [putL, NoBorL, NoBor]) | (intro j hj; simp only [pw, Bool.cond_eq_ite, Bool.and_eq_true, decide_eq_true_eq]; (try rw [subL_getD _ _ _ _ (by first | assumption | omega)]); (try rw [clearL_getD _ _ _ _ (by first | omega | (simp only [ob, ln, bdv] at *; omega))]); (repeat' split) <;> first | rfl | omega | exact simOL_refl _ | (simp_all; done) | (simp_all; rfl) | (simp_all; omega) | (simp_all; exact simOL_refl _) | (simp [putL, NoBorL, NoBor]; done))))

def D_laws_FnExactAvailabilityOf : DF
  | [x0, x1, x2, x3] => some (.bool (laws_FnExactAvailabilityOf (rdL dFault x0) (rdI x1) (rdI x2) (rdI x3)), false, [wL 4 eFault dFault x0, wI .i64 x1, wI .i64 x2, wI .i64 x3, (rdL dFault x0).length < 9223372036854775808])
  | _ => none
theorem D_laws_FnExactAvailabilityOf_ok : OkD Try.prog 11 D_laws_FnExactAvailabilityOf := by
  intro xs r z ob h ho
  unfold D_laws_FnExactAvailabilityOf at h
  split at h
  · simp only [Option.some.injEq, Prod.mk.injEq] at h
    obtain ⟨rfl, rfl, rfl⟩ := h
    obtain ⟨h0, h1, h2, h3, hb0, _⟩ := ho
    exact Den.sim (laws_FnExactAvailabilityOf_den _ _ _ _ hb0) (simOL_cons (wL_sim h0).1 <| simOL_cons (wI_sim h1).1 <| simOL_cons (wI_sim h2).1 <| simOL_cons (wI_sim h3).1 <| trivial) (noIdL_cons (wL_sim h0).2 <| noIdL_cons (wI_sim h1).2 <| noIdL_cons (wI_sim h2).2 <| noIdL_cons (wI_sim h3).2 <| rfl) rfl
  · cases h
end Go.Ab

namespace Go.Ab
open Go Go.Proofs
theorem availabilityOf_eq (a : List Fault) (x p q : Int) (hl : a.length < 1099511627776) : impl_AvailabilityOf a x p q = spec_AvailabilityOf a x p q := by
  unfold impl_AvailabilityOf spec_AvailabilityOf spec_l20Share
  rw [span_eq a p q hl]
  by_cases h : spec_l20Ask a p q = 0
  · obtain ⟨h1, h2, h3, h4⟩ := ask_facts a p q h
    rw [(down_eq a x p q hl h1 h2 h3 h4).1]
  · have : (spec_l20Ask a p q != 0) = true := by simpa using h
    rw [this]; rfl
theorem law_AvailabilityOf (a : List Fault) (x p q : Int) (hl : a.length < 9223372036854775808) : laws_FnExactAvailabilityOf a x p q = true := by
  unfold laws_FnExactAvailabilityOf
  have hf := laws_szFaultS_facts a 1048576 (by omega) (by omega) hl
  simp only [laws_toFaultS_id, laws_eqFaultS_dec]
  by_cases h : laws_szFaultS a 1048576 < 0
  · simp [h]
  · have := hf.2.2 h
    rw [availabilityOf_eq a x p q (by omega)]
    simp
end Go.Ab

namespace Go.Ab
open Go Go.Proofs
theorem spec_l20Need_DD : DOk Try.prog (DD []) := DD_nil _
def spec_l20Need (a0 : Int) : Int :=
  ([998000, 990000, 970000].getD ((IntKind.wrap .i64 (a0 - 1)).toNat) default)

theorem spec_l20Need_den (a0 : Int) (hp0 : 1 ≤ a0) (hp1 : a0 ≤ 3) : Den Try.prog 96 [.int .i64 a0] (.int .i64 (spec_l20Need a0)) := by
  generalize hR : spec_l20Need a0 = r
  unfold spec_l20Need at hR
  refine den_intro G_ok Try.func96 (by kernel_rfl) rfl Try.ntmps96 (by rw [Try.results96]) (by simp) rfl ?_
  intro c hc hk
  simp only [pars, Nat.zero_add]
  obtain rfl | rfl | rfl : a0 = 1 ∨ a0 = 2 ∨ a0 = 3 := by omega
  all_goals
    refine AWP.seq ?_
    refine AWP.regS G_ok spec_l20Need_DD hc (by kernel_rfl) (fun K hK => ?_); simp only [ea, gv, sv, reduceCtorEq, reduceIte, Nat.reduceBEq, Nat.reduceAdd, Nat.reduceEqDiff, Nat.reduceLT, Nat.reduceLeDiff, Nat.reduceMul, Nat.reduceSub, BEq.rfl, beq_self_eq_true, Int.reduceToNat]
    first | refine hK _ ?_ | refine ⟨by (first | trivial | omega | (simp only [ob, ln, bdv, sv] at *; omega) | ((try clear hK K); (repeat' first | apply And.intro | intro _) <;> first | trivial | omega | assumption | solve_by_elim | (apply bd_getD <;> first | assumption | decide) | (apply bd_subL <;> first | assumption | decide) | (simp only [ob, ln, bdv, sv] at *; first | omega | assumption | (simp_all; done) | grind))), hK _ ?_⟩
    clear hK K
    refine AWP.seq ?_
    refine AWP.regS G_ok spec_l20Need_DD hc (by kernel_rfl) (fun K hK => ?_); simp only [ea, gv, sv, reduceCtorEq, reduceIte, Nat.reduceBEq, Nat.reduceAdd, Nat.reduceEqDiff, Nat.reduceLT, Nat.reduceLeDiff, Nat.reduceMul, Nat.reduceSub, BEq.rfl, beq_self_eq_true, Int.reduceToNat]
    first | refine hK _ ?_ | refine ⟨by (first | trivial | omega | (simp only [ob, ln, bdv, sv] at *; omega) | ((try clear hK K); (repeat' first | apply And.intro | intro _) <;> first | trivial | omega | assumption | solve_by_elim | (apply bd_getD <;> first | assumption | decide) | (apply bd_subL <;> first | assumption | decide) | (simp only [ob, ln, bdv, sv] at *; first | omega | assumption | (simp_all; done) | grind))), hK _ ?_⟩
    clear hK K
    refine AWP.ret ?_
    subst hR
    (simp only [en, si, ea, gv, sv, hk, reduceCtorEq, reduceIte, Nat.reduceBEq, Nat.reduceAdd, Nat.reduceEqDiff, Nat.reduceLT, Nat.reduceLeDiff, Nat.reduceMul, Nat.reduceSub, BEq.rfl, beq_self_eq_true, Int.reduceToNat]; first | done | trivial | (and_intros <;> first | rfl | trivial | omega | (rw [IntKind.wrap_i64]; omega) | (simp only [ln]; done) | (simp only [ob, ln, bdv, sv] at *; first | omega | grind) | (left; intro j hj; simp only [pw, Bool.cond_eq_ite, Bool.and_eq_true, decide_eq_true_eq]; (repeat' split) <;> simp [putL, NoBorL, NoBor]) | (intro j hj; simp only [pw, Bool.cond_eq_ite, Bool.and_eq_true, decide_eq_true_eq]; (try rw [subL_getD _ _ _ _ (by first | assumption | omega)]); (try rw [clearL_getD _ _ _ _ (by first | omega | (simp only [ob, ln, bdv] at *; omega))]); (repeat' split) <;> first | rfl | omega | exact simOL_refl _ | (simp_all; done) | (simp_all; rfl) | (simp_all; omega) | (simp_all; exact simOL_refl _) | (simp [putL, NoBorL, NoBor]; done))))

def D_spec_l20Need : DF
  | [x0] => some (.int .i64 (spec_l20Need (rdI x0)), false, [wI .i64 x0, 1 ≤ (rdI x0), (rdI x0) ≤ 3])
  | _ => none
theorem D_spec_l20Need_ok : OkD Try.prog 96 D_spec_l20Need := by
  intro xs r z ob h ho
  unfold D_spec_l20Need at h
  split at h
  · simp only [Option.some.injEq, Prod.mk.injEq] at h
    obtain ⟨rfl, rfl, rfl⟩ := h
    obtain ⟨h0, hp0, hp1, _⟩ := ho
    exact Den.sim (spec_l20Need_den _ hp0 hp1) (simOL_cons (wI_sim h0).1 <| trivial) (noIdL_cons (wI_sim h0).2 <| rfl) rfl
  · cases h
end Go.Ab

namespace Go.Ab
open Go Go.Proofs
theorem spec_MeetsCategory_DD : DOk Try.prog (DD [(87, dP D_spec_l20Ask), (91, dP D_spec_l20Share), (95, dP D_spec_l00In), (96, dP D_spec_l20Need)]) := DD_cons D_spec_l20Ask_ok.e <| DD_cons D_spec_l20Share_ok.e <| DD_cons D_spec_l00In_ok.e <| DD_cons D_spec_l20Need_ok.e <| DD_nil _
def spec_MeetsCategory (a0 : (List Fault)) (a1 : Int) (a2 : Int) (a3 : Int) (a4 : Int) : Bool :=
  ((((spec_l20Ask a0 a3 a4) == 0) && (spec_l00In a2 1 3)) && decide ((spec_l20Need a2) ≤ (spec_l20Share a0 a1 a3 a4)))

theorem spec_MeetsCategory_den (a0 : (List Fault)) (a1 : Int) (a2 : Int) (a3 : Int) (a4 : Int) (hb0 : a0.length < 1099511627776) : Den Try.prog 50 [encL 4 eFault a0, .int .i64 a1, .int .i64 a2, .int .i64 a3, .int .i64 a4] (.bool (spec_MeetsCategory a0 a1 a2 a3 a4)) := by
  generalize hR : spec_MeetsCategory a0 a1 a2 a3 a4 = r
  unfold spec_MeetsCategory at hR
  refine den_intro G_ok Try.func50 (by kernel_rfl) rfl Try.ntmps50 (by rw [Try.results50]) (by simp) rfl ?_
  intro c hc hk
  simp only [pars, Nat.zero_add]
  refine AWP.seq ?_
  refine AWP.regS G_ok spec_MeetsCategory_DD hc (by kernel_rfl) (fun K hK => ?_); simp only [ea, gv, sv, D_spec_l20Ask, D_spec_l20Share, D_spec_l00In, D_spec_l20Need, reduceCtorEq, reduceIte, Nat.reduceBEq, Nat.reduceAdd, Nat.reduceEqDiff, Nat.reduceLT, Nat.reduceLeDiff, Nat.reduceMul, Nat.reduceSub, BEq.rfl, beq_self_eq_true, Int.reduceToNat]
  first | refine hK _ ?_ | refine ⟨by (first | trivial | omega | (simp only [ob, ln, bdv, spec_l00In, sv] at *; omega) | ((try clear hK K); (repeat' first | apply And.intro | intro _) <;> first | trivial | omega | assumption | solve_by_elim | (apply bd_getD <;> first | assumption | decide) | (apply bd_subL <;> first | assumption | decide) | (simp only [ob, ln, bdv, spec_l00In, sv] at *; first | omega | assumption | (simp_all; done) | grind [spec_l20Ask_ok]))), hK _ ?_⟩
  clear hK K
  refine AWP.seq ?_
  refine AWP.regS G_ok spec_MeetsCategory_DD hc (by kernel_rfl) (fun K hK => ?_); simp only [ea, gv, sv, D_spec_l20Ask, D_spec_l20Share, D_spec_l00In, D_spec_l20Need, reduceCtorEq, reduceIte, Nat.reduceBEq, Nat.reduceAdd, Nat.reduceEqDiff, Nat.reduceLT, Nat.reduceLeDiff, Nat.reduceMul, Nat.reduceSub, BEq.rfl, beq_self_eq_true, Int.reduceToNat]
  first | refine hK _ ?_ | refine ⟨by (first | trivial | omega | (simp only [ob, ln, bdv, spec_l00In, sv] at *; omega) | ((try clear hK K); (repeat' first | apply And.intro | intro _) <;> first | trivial | omega | assumption | solve_by_elim | (apply bd_getD <;> first | assumption | decide) | (apply bd_subL <;> first | assumption | decide) | (simp only [ob, ln, bdv, spec_l00In, sv] at *; first | omega | assumption | (simp_all; done) | grind [spec_l20Ask_ok]))), hK _ ?_⟩
  clear hK K
  refine AWP.ret ?_
  subst hR
  (simp only [en, si, ea, gv, sv, hk, reduceCtorEq, reduceIte, Nat.reduceBEq, Nat.reduceAdd, Nat.reduceEqDiff, Nat.reduceLT, Nat.reduceLeDiff, Nat.reduceMul, Nat.reduceSub, BEq.rfl, beq_self_eq_true, Int.reduceToNat]; first | done | trivial | (and_intros <;> first | rfl | trivial | omega | (rw [IntKind.wrap_i64]; omega) | (simp only [ln]; done) | (simp only [ob, ln, bdv, spec_l00In, sv] at *; first | omega | grind [spec_l20Ask_ok]) | (left; intro j hj; simp only [pw, Bool.cond_eq_ite, Bool.and_eq_true, decide_eq_true_eq]; (repeat' split) <;> simp [putL, NoBorL, NoBor]) | (intro j hj; simp only [pw, Bool.cond_eq_ite, Bool.and_eq_true, decide_eq_true_eq]; (try rw [subL_getD _ _ _ _ (by first | assumption | omega)]); (try rw [clearL_getD _ _ _ _ (by first | omega | (simp only [ob, ln, bdv] at *; omega))]); (repeat' split) <;> first | rfl | omega | exact simOL_refl _ | (simp_all; done) | (simp_all; rfl) | (simp_all; omega) | (simp_all; exact simOL_refl _) | (simp [putL, NoBorL, NoBor]; done))))

def D_spec_MeetsCategory : DF
  | [x0, x1, x2, x3, x4] => some (.bool (spec_MeetsCategory (rdL dFault x0) (rdI x1) (rdI x2) (rdI x3) (rdI x4)), false, [wL 4 eFault dFault x0, wI .i64 x1, wI .i64 x2, wI .i64 x3, wI .i64 x4, (rdL dFault x0).length < 1099511627776])
  | _ => none
theorem D_spec_MeetsCategory_ok : OkD Try.prog 50 D_spec_MeetsCategory := by
  intro xs r z ob h ho
  unfold D_spec_MeetsCategory at h
  split at h
  · simp only [Option.some.injEq, Prod.mk.injEq] at h
    obtain ⟨rfl, rfl, rfl⟩ := h
    obtain ⟨h0, h1, h2, h3, h4, hb0, _⟩ := ho
    exact Den.sim (spec_MeetsCategory_den _ _ _ _ _ hb0) (simOL_cons (wL_sim h0).1 <| simOL_cons (wI_sim h1).1 <| simOL_cons (wI_sim h2).1 <| simOL_cons (wI_sim h3).1 <| simOL_cons (wI_sim h4).1 <| trivial) (noIdL_cons (wL_sim h0).2 <| noIdL_cons (wI_sim h1).2 <| noIdL_cons (wI_sim h2).2 <| noIdL_cons (wI_sim h3).2 <| noIdL_cons (wI_sim h4).2 <| rfl) rfl
  · cases h
end Go.Ab

namespace Go.Ab
open Go Go.Proofs
theorem impl_CategoryNeed_DD : DOk Try.prog (DD []) := DD_nil _
def impl_CategoryNeed (a0 : Int) : (Int × Int) :=
  (bif (a0 == 1) then (998000, 0) else (bif (a0 == 2) then (990000, 0) else (bif (a0 == 3) then (970000, 0) else (0, 2))))

theorem impl_CategoryNeed_den (a0 : Int)  : Den Try.prog 97 [.int .i64 a0] (.tup [.int .i64 ((impl_CategoryNeed a0).1), .int .i64 ((impl_CategoryNeed a0).2)]) := by
  generalize hR : impl_CategoryNeed a0 = r
  unfold impl_CategoryNeed at hR
  refine den_intro G_ok Try.func97 (by kernel_rfl) rfl Try.ntmps97 (by rw [Try.results97]) (by simp) rfl ?_
  intro c hc hk
  simp only [pars, Nat.zero_add]
  refine AWP.seq ?_
  refine AWP.regS G_ok impl_CategoryNeed_DD hc (by kernel_rfl) (fun K hK => ?_); simp only [ea, gv, sv, reduceCtorEq, reduceIte, Nat.reduceBEq, Nat.reduceAdd, Nat.reduceEqDiff, Nat.reduceLT, Nat.reduceLeDiff, Nat.reduceMul, Nat.reduceSub, BEq.rfl, beq_self_eq_true, Int.reduceToNat]
  first | refine hK _ ?_ | refine ⟨by (first | trivial | omega | (simp only [ob, ln, bdv, sv] at *; omega) | ((try clear hK K); (repeat' first | apply And.intro | intro _) <;> first | trivial | omega | assumption | solve_by_elim | (apply bd_getD <;> first | assumption | decide) | (apply bd_subL <;> first | assumption | decide) | (simp only [ob, ln, bdv, sv] at *; first | omega | assumption | (simp_all; done) | grind))), hK _ ?_⟩
  clear hK K
  refine AWP.seq ?_
  refine AWP.seq ?_
  refine AWP.regS G_ok impl_CategoryNeed_DD hc (by kernel_rfl) (fun K hK => ?_); simp only [ea, gv, sv, reduceCtorEq, reduceIte, Nat.reduceBEq, Nat.reduceAdd, Nat.reduceEqDiff, Nat.reduceLT, Nat.reduceLeDiff, Nat.reduceMul, Nat.reduceSub, BEq.rfl, beq_self_eq_true, Int.reduceToNat]
  first | refine hK _ ?_ | refine ⟨by (first | trivial | omega | (simp only [ob, ln, bdv, sv] at *; omega) | ((try clear hK K); (repeat' first | apply And.intro | intro _) <;> first | trivial | omega | assumption | solve_by_elim | (apply bd_getD <;> first | assumption | decide) | (apply bd_subL <;> first | assumption | decide) | (simp only [ob, ln, bdv, sv] at *; first | omega | assumption | (simp_all; done) | grind))), hK _ ?_⟩
  clear hK K
  refine AWP.block ?_
  refine AWP.seq ?_
  refine AWP.regS G_ok impl_CategoryNeed_DD hc (by kernel_rfl) (fun K hK => ?_); simp only [ea, gv, sv, reduceCtorEq, reduceIte, Nat.reduceBEq, Nat.reduceAdd, Nat.reduceEqDiff, Nat.reduceLT, Nat.reduceLeDiff, Nat.reduceMul, Nat.reduceSub, BEq.rfl, beq_self_eq_true, Int.reduceToNat]
  first | refine hK _ ?_ | refine ⟨by (first | trivial | omega | (simp only [ob, ln, bdv, sv] at *; omega) | ((try clear hK K); (repeat' first | apply And.intro | intro _) <;> first | trivial | omega | assumption | solve_by_elim | (apply bd_getD <;> first | assumption | decide) | (apply bd_subL <;> first | assumption | decide) | (simp only [ob, ln, bdv, sv] at *; first | omega | assumption | (simp_all; done) | grind))), hK _ ?_⟩
  clear hK K
  refine AWP.cond rfl (fun hb => ?_) (fun hb => ?_)
  · first | simp only [hb, cond_true] at hR | (simp only [*] at hb; simp only [hb, cond_true] at hR)
    refine AWP.seq ?_
    refine AWP.regS G_ok impl_CategoryNeed_DD hc (by kernel_rfl) (fun K hK => ?_); simp only [ea, gv, sv, reduceCtorEq, reduceIte, Nat.reduceBEq, Nat.reduceAdd, Nat.reduceEqDiff, Nat.reduceLT, Nat.reduceLeDiff, Nat.reduceMul, Nat.reduceSub, BEq.rfl, beq_self_eq_true, Int.reduceToNat]
    first | refine hK _ ?_ | refine ⟨by (first | trivial | omega | (simp only [ob, ln, bdv, sv] at *; omega) | ((try clear hK K); (repeat' first | apply And.intro | intro _) <;> first | trivial | omega | assumption | solve_by_elim | (apply bd_getD <;> first | assumption | decide) | (apply bd_subL <;> first | assumption | decide) | (simp only [ob, ln, bdv, sv] at *; first | omega | assumption | (simp_all; done) | grind))), hK _ ?_⟩
    clear hK K
    refine AWP.ret ?_
    subst hR
    (simp only [en, si, ea, gv, sv, hk, reduceCtorEq, reduceIte, Nat.reduceBEq, Nat.reduceAdd, Nat.reduceEqDiff, Nat.reduceLT, Nat.reduceLeDiff, Nat.reduceMul, Nat.reduceSub, BEq.rfl, beq_self_eq_true, Int.reduceToNat]; first | done | trivial | (and_intros <;> first | rfl | trivial | omega | (rw [IntKind.wrap_i64]; omega) | (simp only [ln]; done) | (simp only [ob, ln, bdv, sv] at *; first | omega | grind) | (left; intro j hj; simp only [pw, Bool.cond_eq_ite, Bool.and_eq_true, decide_eq_true_eq]; (repeat' split) <;> simp [putL, NoBorL, NoBor]) | (intro j hj; simp only [pw, Bool.cond_eq_ite, Bool.and_eq_true, decide_eq_true_eq]; (try rw [subL_getD _ _ _ _ (by first | assumption | omega)]); (try rw [clearL_getD _ _ _ _ (by first | omega | (simp only [ob, ln, bdv] at *; omega))]); (repeat' split) <;> first | rfl | omega | exact simOL_refl _ | (simp_all; done) | (simp_all; rfl) | (simp_all; omega) | (simp_all; exact simOL_refl _) | (simp [putL, NoBorL, NoBor]; done))))
  · first | simp only [hb, cond_false] at hR | (simp only [*] at hb; simp only [hb, cond_false] at hR)
    refine AWP.seq ?_
    refine AWP.regS G_ok impl_CategoryNeed_DD hc (by kernel_rfl) (fun K hK => ?_); simp only [ea, gv, sv, reduceCtorEq, reduceIte, Nat.reduceBEq, Nat.reduceAdd, Nat.reduceEqDiff, Nat.reduceLT, Nat.reduceLeDiff, Nat.reduceMul, Nat.reduceSub, BEq.rfl, beq_self_eq_true, Int.reduceToNat]
    first | refine hK _ ?_ | refine ⟨by (first | trivial | omega | (simp only [ob, ln, bdv, sv] at *; omega) | ((try clear hK K); (repeat' first | apply And.intro | intro _) <;> first | trivial | omega | assumption | solve_by_elim | (apply bd_getD <;> first | assumption | decide) | (apply bd_subL <;> first | assumption | decide) | (simp only [ob, ln, bdv, sv] at *; first | omega | assumption | (simp_all; done) | grind))), hK _ ?_⟩
    clear hK K
    refine AWP.cond rfl (fun hb => ?_) (fun hb => ?_)
    · first | simp only [hb, cond_true] at hR | (simp only [*] at hb; simp only [hb, cond_true] at hR)
      refine AWP.seq ?_
      refine AWP.regS G_ok impl_CategoryNeed_DD hc (by kernel_rfl) (fun K hK => ?_); simp only [ea, gv, sv, reduceCtorEq, reduceIte, Nat.reduceBEq, Nat.reduceAdd, Nat.reduceEqDiff, Nat.reduceLT, Nat.reduceLeDiff, Nat.reduceMul, Nat.reduceSub, BEq.rfl, beq_self_eq_true, Int.reduceToNat]
      first | refine hK _ ?_ | refine ⟨by (first | trivial | omega | (simp only [ob, ln, bdv, sv] at *; omega) | ((try clear hK K); (repeat' first | apply And.intro | intro _) <;> first | trivial | omega | assumption | solve_by_elim | (apply bd_getD <;> first | assumption | decide) | (apply bd_subL <;> first | assumption | decide) | (simp only [ob, ln, bdv, sv] at *; first | omega | assumption | (simp_all; done) | grind))), hK _ ?_⟩
      clear hK K
      refine AWP.ret ?_
      subst hR
      (simp only [en, si, ea, gv, sv, hk, reduceCtorEq, reduceIte, Nat.reduceBEq, Nat.reduceAdd, Nat.reduceEqDiff, Nat.reduceLT, Nat.reduceLeDiff, Nat.reduceMul, Nat.reduceSub, BEq.rfl, beq_self_eq_true, Int.reduceToNat]; first | done | trivial | (and_intros <;> first | rfl | trivial | omega | (rw [IntKind.wrap_i64]; omega) | (simp only [ln]; done) | (simp only [ob, ln, bdv, sv] at *; first | omega | grind) | (left; intro j hj; simp only [pw, Bool.cond_eq_ite, Bool.and_eq_true, decide_eq_true_eq]; (repeat' split) <;> simp [putL, NoBorL, NoBor]) | (intro j hj; simp only [pw, Bool.cond_eq_ite, Bool.and_eq_true, decide_eq_true_eq]; (try rw [subL_getD _ _ _ _ (by first | assumption | omega)]); (try rw [clearL_getD _ _ _ _ (by first | omega | (simp only [ob, ln, bdv] at *; omega))]); (repeat' split) <;> first | rfl | omega | exact simOL_refl _ | (simp_all; done) | (simp_all; rfl) | (simp_all; omega) | (simp_all; exact simOL_refl _) | (simp [putL, NoBorL, NoBor]; done))))
    · first | simp only [hb, cond_false] at hR | (simp only [*] at hb; simp only [hb, cond_false] at hR)
      refine AWP.seq ?_
      refine AWP.regS G_ok impl_CategoryNeed_DD hc (by kernel_rfl) (fun K hK => ?_); simp only [ea, gv, sv, reduceCtorEq, reduceIte, Nat.reduceBEq, Nat.reduceAdd, Nat.reduceEqDiff, Nat.reduceLT, Nat.reduceLeDiff, Nat.reduceMul, Nat.reduceSub, BEq.rfl, beq_self_eq_true, Int.reduceToNat]
      first | refine hK _ ?_ | refine ⟨by (first | trivial | omega | (simp only [ob, ln, bdv, sv] at *; omega) | ((try clear hK K); (repeat' first | apply And.intro | intro _) <;> first | trivial | omega | assumption | solve_by_elim | (apply bd_getD <;> first | assumption | decide) | (apply bd_subL <;> first | assumption | decide) | (simp only [ob, ln, bdv, sv] at *; first | omega | assumption | (simp_all; done) | grind))), hK _ ?_⟩
      clear hK K
      refine AWP.cond rfl (fun hb => ?_) (fun hb => ?_)
      · first | simp only [hb, cond_true] at hR | (simp only [*] at hb; simp only [hb, cond_true] at hR)
        refine AWP.seq ?_
        refine AWP.regS G_ok impl_CategoryNeed_DD hc (by kernel_rfl) (fun K hK => ?_); simp only [ea, gv, sv, reduceCtorEq, reduceIte, Nat.reduceBEq, Nat.reduceAdd, Nat.reduceEqDiff, Nat.reduceLT, Nat.reduceLeDiff, Nat.reduceMul, Nat.reduceSub, BEq.rfl, beq_self_eq_true, Int.reduceToNat]
        first | refine hK _ ?_ | refine ⟨by (first | trivial | omega | (simp only [ob, ln, bdv, sv] at *; omega) | ((try clear hK K); (repeat' first | apply And.intro | intro _) <;> first | trivial | omega | assumption | solve_by_elim | (apply bd_getD <;> first | assumption | decide) | (apply bd_subL <;> first | assumption | decide) | (simp only [ob, ln, bdv, sv] at *; first | omega | assumption | (simp_all; done) | grind))), hK _ ?_⟩
        clear hK K
        refine AWP.ret ?_
        subst hR
        (simp only [en, si, ea, gv, sv, hk, reduceCtorEq, reduceIte, Nat.reduceBEq, Nat.reduceAdd, Nat.reduceEqDiff, Nat.reduceLT, Nat.reduceLeDiff, Nat.reduceMul, Nat.reduceSub, BEq.rfl, beq_self_eq_true, Int.reduceToNat]; first | done | trivial | (and_intros <;> first | rfl | trivial | omega | (rw [IntKind.wrap_i64]; omega) | (simp only [ln]; done) | (simp only [ob, ln, bdv, sv] at *; first | omega | grind) | (left; intro j hj; simp only [pw, Bool.cond_eq_ite, Bool.and_eq_true, decide_eq_true_eq]; (repeat' split) <;> simp [putL, NoBorL, NoBor]) | (intro j hj; simp only [pw, Bool.cond_eq_ite, Bool.and_eq_true, decide_eq_true_eq]; (try rw [subL_getD _ _ _ _ (by first | assumption | omega)]); (try rw [clearL_getD _ _ _ _ (by first | omega | (simp only [ob, ln, bdv] at *; omega))]); (repeat' split) <;> first | rfl | omega | exact simOL_refl _ | (simp_all; done) | (simp_all; rfl) | (simp_all; omega) | (simp_all; exact simOL_refl _) | (simp [putL, NoBorL, NoBor]; done))))
      · first | simp only [hb, cond_false] at hR | (simp only [*] at hb; simp only [hb, cond_false] at hR)
        refine AWP.skip ?_
        refine AWP.seq ?_
        refine AWP.regS G_ok impl_CategoryNeed_DD hc (by kernel_rfl) (fun K hK => ?_); simp only [ea, gv, sv, reduceCtorEq, reduceIte, Nat.reduceBEq, Nat.reduceAdd, Nat.reduceEqDiff, Nat.reduceLT, Nat.reduceLeDiff, Nat.reduceMul, Nat.reduceSub, BEq.rfl, beq_self_eq_true, Int.reduceToNat]
        first | refine hK _ ?_ | refine ⟨by (first | trivial | omega | (simp only [ob, ln, bdv, sv] at *; omega) | ((try clear hK K); (repeat' first | apply And.intro | intro _) <;> first | trivial | omega | assumption | solve_by_elim | (apply bd_getD <;> first | assumption | decide) | (apply bd_subL <;> first | assumption | decide) | (simp only [ob, ln, bdv, sv] at *; first | omega | assumption | (simp_all; done) | grind))), hK _ ?_⟩
        clear hK K
        refine AWP.ret ?_
        subst hR
        (simp only [en, si, ea, gv, sv, hk, reduceCtorEq, reduceIte, Nat.reduceBEq, Nat.reduceAdd, Nat.reduceEqDiff, Nat.reduceLT, Nat.reduceLeDiff, Nat.reduceMul, Nat.reduceSub, BEq.rfl, beq_self_eq_true, Int.reduceToNat]; first | done | trivial | (and_intros <;> first | rfl | trivial | omega | (rw [IntKind.wrap_i64]; omega) | (simp only [ln]; done) | (simp only [ob, ln, bdv, sv] at *; first | omega | grind) | (left; intro j hj; simp only [pw, Bool.cond_eq_ite, Bool.and_eq_true, decide_eq_true_eq]; (repeat' split) <;> simp [putL, NoBorL, NoBor]) | (intro j hj; simp only [pw, Bool.cond_eq_ite, Bool.and_eq_true, decide_eq_true_eq]; (try rw [subL_getD _ _ _ _ (by first | assumption | omega)]); (try rw [clearL_getD _ _ _ _ (by first | omega | (simp only [ob, ln, bdv] at *; omega))]); (repeat' split) <;> first | rfl | omega | exact simOL_refl _ | (simp_all; done) | (simp_all; rfl) | (simp_all; omega) | (simp_all; exact simOL_refl _) | (simp [putL, NoBorL, NoBor]; done))))

def D_impl_CategoryNeed : DF
  | [x0] => some (.tup [.int .i64 ((impl_CategoryNeed (rdI x0)).1), .int .i64 ((impl_CategoryNeed (rdI x0)).2)], false, [wI .i64 x0])
  | _ => none
theorem D_impl_CategoryNeed_ok : OkD Try.prog 97 D_impl_CategoryNeed := by
  intro xs r z ob h ho
  unfold D_impl_CategoryNeed at h
  split at h
  · simp only [Option.some.injEq, Prod.mk.injEq] at h
    obtain ⟨rfl, rfl, rfl⟩ := h
    obtain ⟨h0, _⟩ := ho
    exact Den.sim (impl_CategoryNeed_den _ ) (simOL_cons (wI_sim h0).1 <| trivial) (noIdL_cons (wI_sim h0).2 <| rfl) rfl
  · cases h
end Go.Ab

namespace Go.Ab
open Go Go.Proofs
theorem impl_MeetsCategory_DD : DOk Try.prog (DD [(47, dP D_impl_AvailabilityOf), (97, dP D_impl_CategoryNeed)]) := DD_cons D_impl_AvailabilityOf_ok.e <| DD_cons D_impl_CategoryNeed_ok.e <| DD_nil _
def impl_MeetsCategory (a0 : (List Fault)) (a1 : Int) (a2 : Int) (a3 : Int) (a4 : Int) : Bool :=
  (((((impl_AvailabilityOf a0 a1 a3 a4).2) == 0) && (((impl_CategoryNeed a2).2) == 0)) && decide (((impl_CategoryNeed a2).1) ≤ ((impl_AvailabilityOf a0 a1 a3 a4).1)))

theorem impl_MeetsCategory_den (a0 : (List Fault)) (a1 : Int) (a2 : Int) (a3 : Int) (a4 : Int) (hb0 : a0.length < 1099511627776) : Den Try.prog 51 [encL 4 eFault a0, .int .i64 a1, .int .i64 a2, .int .i64 a3, .int .i64 a4] (.bool (impl_MeetsCategory a0 a1 a2 a3 a4)) := by
  generalize hR : impl_MeetsCategory a0 a1 a2 a3 a4 = r
  unfold impl_MeetsCategory at hR
  refine den_intro G_ok Try.func51 (by kernel_rfl) rfl Try.ntmps51 (by rw [Try.results51]) (by simp) rfl ?_
  intro c hc hk
  simp only [pars, Nat.zero_add]
  refine AWP.seq ?_
  refine AWP.regS G_ok impl_MeetsCategory_DD hc (by kernel_rfl) (fun K hK => ?_); simp only [ea, gv, sv, D_impl_AvailabilityOf, D_impl_CategoryNeed, reduceCtorEq, reduceIte, Nat.reduceBEq, Nat.reduceAdd, Nat.reduceEqDiff, Nat.reduceLT, Nat.reduceLeDiff, Nat.reduceMul, Nat.reduceSub, BEq.rfl, beq_self_eq_true, Int.reduceToNat]
  first | refine hK _ ?_ | refine ⟨by (first | trivial | omega | (simp only [ob, ln, bdv, sv] at *; omega) | ((try clear hK K); (repeat' first | apply And.intro | intro _) <;> first | trivial | omega | assumption | solve_by_elim | (apply bd_getD <;> first | assumption | decide) | (apply bd_subL <;> first | assumption | decide) | (simp only [ob, ln, bdv, sv] at *; first | omega | assumption | (simp_all; done) | grind))), hK _ ?_⟩
  clear hK K
  refine AWP.seq ?_
  refine AWP.regS G_ok impl_MeetsCategory_DD hc (by kernel_rfl) (fun K hK => ?_); simp only [ea, gv, sv, D_impl_AvailabilityOf, D_impl_CategoryNeed, reduceCtorEq, reduceIte, Nat.reduceBEq, Nat.reduceAdd, Nat.reduceEqDiff, Nat.reduceLT, Nat.reduceLeDiff, Nat.reduceMul, Nat.reduceSub, BEq.rfl, beq_self_eq_true, Int.reduceToNat]
  first | refine hK _ ?_ | refine ⟨by (first | trivial | omega | (simp only [ob, ln, bdv, sv] at *; omega) | ((try clear hK K); (repeat' first | apply And.intro | intro _) <;> first | trivial | omega | assumption | solve_by_elim | (apply bd_getD <;> first | assumption | decide) | (apply bd_subL <;> first | assumption | decide) | (simp only [ob, ln, bdv, sv] at *; first | omega | assumption | (simp_all; done) | grind))), hK _ ?_⟩
  clear hK K
  refine AWP.seq ?_
  refine AWP.regS G_ok impl_MeetsCategory_DD hc (by kernel_rfl) (fun K hK => ?_); simp only [ea, gv, sv, D_impl_AvailabilityOf, D_impl_CategoryNeed, reduceCtorEq, reduceIte, Nat.reduceBEq, Nat.reduceAdd, Nat.reduceEqDiff, Nat.reduceLT, Nat.reduceLeDiff, Nat.reduceMul, Nat.reduceSub, BEq.rfl, beq_self_eq_true, Int.reduceToNat]
  first | refine hK _ ?_ | refine ⟨by (first | trivial | omega | (simp only [ob, ln, bdv, sv] at *; omega) | ((try clear hK K); (repeat' first | apply And.intro | intro _) <;> first | trivial | omega | assumption | solve_by_elim | (apply bd_getD <;> first | assumption | decide) | (apply bd_subL <;> first | assumption | decide) | (simp only [ob, ln, bdv, sv] at *; first | omega | assumption | (simp_all; done) | grind))), hK _ ?_⟩
  clear hK K
  refine AWP.seq ?_
  refine AWP.regS G_ok impl_MeetsCategory_DD hc (by kernel_rfl) (fun K hK => ?_); simp only [ea, gv, sv, D_impl_AvailabilityOf, D_impl_CategoryNeed, reduceCtorEq, reduceIte, Nat.reduceBEq, Nat.reduceAdd, Nat.reduceEqDiff, Nat.reduceLT, Nat.reduceLeDiff, Nat.reduceMul, Nat.reduceSub, BEq.rfl, beq_self_eq_true, Int.reduceToNat]
  first | refine hK _ ?_ | refine ⟨by (first | trivial | omega | (simp only [ob, ln, bdv, sv] at *; omega) | ((try clear hK K); (repeat' first | apply And.intro | intro _) <;> first | trivial | omega | assumption | solve_by_elim | (apply bd_getD <;> first | assumption | decide) | (apply bd_subL <;> first | assumption | decide) | (simp only [ob, ln, bdv, sv] at *; first | omega | assumption | (simp_all; done) | grind))), hK _ ?_⟩
  clear hK K
  refine AWP.ret ?_
  subst hR
  (simp only [en, si, ea, gv, sv, hk, reduceCtorEq, reduceIte, Nat.reduceBEq, Nat.reduceAdd, Nat.reduceEqDiff, Nat.reduceLT, Nat.reduceLeDiff, Nat.reduceMul, Nat.reduceSub, BEq.rfl, beq_self_eq_true, Int.reduceToNat]; first | done | trivial | (and_intros <;> first | rfl | trivial | omega | (rw [IntKind.wrap_i64]; omega) | (simp only [ln]; done) | (simp only [ob, ln, bdv, sv] at *; first | omega | grind) | (left; intro j hj; simp only [pw, Bool.cond_eq_ite, Bool.and_eq_true, decide_eq_true_eq]; (repeat' split) <;> simp [putL, NoBorL, NoBor]) | (intro j hj; simp only [pw, Bool.cond_eq_ite, Bool.and_eq_true, decide_eq_true_eq]; (try rw [subL_getD _ _ _ _ (by first | assumption | omega)]); (try rw [clearL_getD _ _ _ _ (by first | omega | (simp only [ob, ln, bdv] at *; omega))]); (repeat' split) <;> first | rfl | omega | exact simOL_refl _ | (simp_all; done) | (simp_all; rfl) | (simp_all; omega) | (simp_all; exact simOL_refl _) | (simp [putL, NoBorL, NoBor]; done))))

def D_impl_MeetsCategory : DF
  | [x0, x1, x2, x3, x4] => some (.bool (impl_MeetsCategory (rdL dFault x0) (rdI x1) (rdI x2) (rdI x3) (rdI x4)), false, [wL 4 eFault dFault x0, wI .i64 x1, wI .i64 x2, wI .i64 x3, wI .i64 x4, (rdL dFault x0).length < 1099511627776])
  | _ => none
theorem D_impl_MeetsCategory_ok : OkD Try.prog 51 D_impl_MeetsCategory := by
  intro xs r z ob h ho
  unfold D_impl_MeetsCategory at h
  split at h
  · simp only [Option.some.injEq, Prod.mk.injEq] at h
    obtain ⟨rfl, rfl, rfl⟩ := h
    obtain ⟨h0, h1, h2, h3, h4, hb0, _⟩ := ho
    exact Den.sim (impl_MeetsCategory_den _ _ _ _ _ hb0) (simOL_cons (wL_sim h0).1 <| simOL_cons (wI_sim h1).1 <| simOL_cons (wI_sim h2).1 <| simOL_cons (wI_sim h3).1 <| simOL_cons (wI_sim h4).1 <| trivial) (noIdL_cons (wL_sim h0).2 <| noIdL_cons (wI_sim h1).2 <| noIdL_cons (wI_sim h2).2 <| noIdL_cons (wI_sim h3).2 <| noIdL_cons (wI_sim h4).2 <| rfl) rfl
  · cases h
end Go.Ab

namespace Go.Ab
open Go Go.Proofs
theorem laws_FnExactMeetsCategory_DD : DOk Try.prog (DD [(14, dP D_laws_szFaultS), (16, dP D_laws_toFaultS), (18, dP D_laws_eqFaultS), (50, dP D_spec_MeetsCategory), (51, dP D_impl_MeetsCategory)]) := DD_cons D_laws_szFaultS_ok.e <| DD_cons D_laws_toFaultS_ok.e <| DD_cons D_laws_eqFaultS_ok.e <| DD_cons D_spec_MeetsCategory_ok.e <| DD_cons D_impl_MeetsCategory_ok.e <| DD_nil _
def laws_FnExactMeetsCategory (a0 : (List Fault)) (a1 : Int) (a2 : Int) (a3 : Int) (a4 : Int) : Bool :=
  (bif decide ((laws_szFaultS a0 1048576) < 0) then true else (bif (!((impl_MeetsCategory (laws_toFaultS a0) a1 a2 a3 a4) == (spec_MeetsCategory (laws_toFaultS a0) a1 a2 a3 a4))) then false else (bif (!(laws_eqFaultS (laws_toFaultS a0) (laws_toFaultS a0))) then false else true)))

theorem laws_FnExactMeetsCategory_den (a0 : (List Fault)) (a1 : Int) (a2 : Int) (a3 : Int) (a4 : Int) (hb0 : a0.length < 9223372036854775808) : Den Try.prog 13 [encL 4 eFault a0, .int .i64 a1, .int .i64 a2, .int .i64 a3, .int .i64 a4] (.bool (laws_FnExactMeetsCategory a0 a1 a2 a3 a4)) := by
  generalize hR : laws_FnExactMeetsCategory a0 a1 a2 a3 a4 = r
  unfold laws_FnExactMeetsCategory at hR
  refine den_intro G_ok Try.func13 (by kernel_rfl) rfl Try.ntmps13 (by rw [Try.results13]) (by simp) rfl ?_
  intro c hc hk
  simp only [pars, Nat.zero_add]
  have hf0 := laws_szFaultS_facts a0 (1048576) (by omega) (by omega) hb0
  refine AWP.seq ?_
  refine AWP.regS G_ok laws_FnExactMeetsCategory_DD hc (by kernel_rfl) (fun K hK => ?_); simp only [ea, gv, sv, D_laws_szFaultS, D_laws_toFaultS, D_laws_eqFaultS, D_spec_MeetsCategory, D_impl_MeetsCategory, reduceCtorEq, reduceIte, Nat.reduceBEq, Nat.reduceAdd, Nat.reduceEqDiff, Nat.reduceLT, Nat.reduceLeDiff, Nat.reduceMul, Nat.reduceSub, BEq.rfl, beq_self_eq_true, Int.reduceToNat]
  first | refine hK _ ?_ | refine ⟨by (first | trivial | omega | (simp only [ob, ln, bdv, laws_toFaultS_id, sv] at *; omega) | ((try clear hK K); (repeat' first | apply And.intro | intro _) <;> first | trivial | omega | assumption | solve_by_elim | (apply bd_getD <;> first | assumption | decide) | (apply bd_subL <;> first | assumption | decide) | (simp only [ob, ln, bdv, laws_toFaultS_id, sv] at *; first | omega | assumption | (simp_all; done) | grind))), hK _ ?_⟩
  clear hK K
  refine AWP.seq ?_
  refine AWP.regS G_ok laws_FnExactMeetsCategory_DD hc (by kernel_rfl) (fun K hK => ?_); simp only [ea, gv, sv, D_laws_szFaultS, D_laws_toFaultS, D_laws_eqFaultS, D_spec_MeetsCategory, D_impl_MeetsCategory, reduceCtorEq, reduceIte, Nat.reduceBEq, Nat.reduceAdd, Nat.reduceEqDiff, Nat.reduceLT, Nat.reduceLeDiff, Nat.reduceMul, Nat.reduceSub, BEq.rfl, beq_self_eq_true, Int.reduceToNat]
  first | refine hK _ ?_ | refine ⟨by (first | trivial | omega | (simp only [ob, ln, bdv, laws_toFaultS_id, sv] at *; omega) | ((try clear hK K); (repeat' first | apply And.intro | intro _) <;> first | trivial | omega | assumption | solve_by_elim | (apply bd_getD <;> first | assumption | decide) | (apply bd_subL <;> first | assumption | decide) | (simp only [ob, ln, bdv, laws_toFaultS_id, sv] at *; first | omega | assumption | (simp_all; done) | grind))), hK _ ?_⟩
  clear hK K
  refine AWP.seq ?_
  refine AWP.regS G_ok laws_FnExactMeetsCategory_DD hc (by kernel_rfl) (fun K hK => ?_); simp only [ea, gv, sv, D_laws_szFaultS, D_laws_toFaultS, D_laws_eqFaultS, D_spec_MeetsCategory, D_impl_MeetsCategory, reduceCtorEq, reduceIte, Nat.reduceBEq, Nat.reduceAdd, Nat.reduceEqDiff, Nat.reduceLT, Nat.reduceLeDiff, Nat.reduceMul, Nat.reduceSub, BEq.rfl, beq_self_eq_true, Int.reduceToNat]
  first | refine hK _ ?_ | refine ⟨by (first | trivial | omega | (simp only [ob, ln, bdv, laws_toFaultS_id, sv] at *; omega) | ((try clear hK K); (repeat' first | apply And.intro | intro _) <;> first | trivial | omega | assumption | solve_by_elim | (apply bd_getD <;> first | assumption | decide) | (apply bd_subL <;> first | assumption | decide) | (simp only [ob, ln, bdv, laws_toFaultS_id, sv] at *; first | omega | assumption | (simp_all; done) | grind))), hK _ ?_⟩
  clear hK K
  refine AWP.seq ?_
  refine AWP.seq ?_
  refine AWP.regS G_ok laws_FnExactMeetsCategory_DD hc (by kernel_rfl) (fun K hK => ?_); simp only [ea, gv, sv, D_laws_szFaultS, D_laws_toFaultS, D_laws_eqFaultS, D_spec_MeetsCategory, D_impl_MeetsCategory, reduceCtorEq, reduceIte, Nat.reduceBEq, Nat.reduceAdd, Nat.reduceEqDiff, Nat.reduceLT, Nat.reduceLeDiff, Nat.reduceMul, Nat.reduceSub, BEq.rfl, beq_self_eq_true, Int.reduceToNat]
  first | refine hK _ ?_ | refine ⟨by (first | trivial | omega | (simp only [ob, ln, bdv, laws_toFaultS_id, sv] at *; omega) | ((try clear hK K); (repeat' first | apply And.intro | intro _) <;> first | trivial | omega | assumption | solve_by_elim | (apply bd_getD <;> first | assumption | decide) | (apply bd_subL <;> first | assumption | decide) | (simp only [ob, ln, bdv, laws_toFaultS_id, sv] at *; first | omega | assumption | (simp_all; done) | grind))), hK _ ?_⟩
  clear hK K
  refine AWP.cond rfl (fun hb => ?_) (fun hb => ?_)
  · first | simp only [hb, cond_true] at hR | (simp only [*] at hb; simp only [hb, cond_true] at hR)
    refine AWP.seq ?_
    refine AWP.regS G_ok laws_FnExactMeetsCategory_DD hc (by kernel_rfl) (fun K hK => ?_); simp only [ea, gv, sv, D_laws_szFaultS, D_laws_toFaultS, D_laws_eqFaultS, D_spec_MeetsCategory, D_impl_MeetsCategory, reduceCtorEq, reduceIte, Nat.reduceBEq, Nat.reduceAdd, Nat.reduceEqDiff, Nat.reduceLT, Nat.reduceLeDiff, Nat.reduceMul, Nat.reduceSub, BEq.rfl, beq_self_eq_true, Int.reduceToNat]
    first | refine hK _ ?_ | refine ⟨by (first | trivial | omega | (simp only [ob, ln, bdv, laws_toFaultS_id, sv] at *; omega) | ((try clear hK K); (repeat' first | apply And.intro | intro _) <;> first | trivial | omega | assumption | solve_by_elim | (apply bd_getD <;> first | assumption | decide) | (apply bd_subL <;> first | assumption | decide) | (simp only [ob, ln, bdv, laws_toFaultS_id, sv] at *; first | omega | assumption | (simp_all; done) | grind))), hK _ ?_⟩
    clear hK K
    refine AWP.ret ?_
    subst hR
    (simp only [en, si, ea, gv, sv, hk, reduceCtorEq, reduceIte, Nat.reduceBEq, Nat.reduceAdd, Nat.reduceEqDiff, Nat.reduceLT, Nat.reduceLeDiff, Nat.reduceMul, Nat.reduceSub, BEq.rfl, beq_self_eq_true, Int.reduceToNat]; first | done | trivial | (and_intros <;> first | rfl | trivial | omega | (rw [IntKind.wrap_i64]; omega) | (simp only [ln]; done) | (simp only [ob, ln, bdv, laws_toFaultS_id, sv] at *; first | omega | grind) | (left; intro j hj; simp only [pw, Bool.cond_eq_ite, Bool.and_eq_true, decide_eq_true_eq]; (repeat' split) <;> simp [putL, NoBorL, NoBor]) | (intro j hj; simp only [pw, Bool.cond_eq_ite, Bool.and_eq_true, decide_eq_true_eq]; (try rw [subL_getD _ _ _ _ (by first | assumption | omega)]); (try rw [clearL_getD _ _ _ _ (by first | omega | (simp only [ob, ln, bdv] at *; omega))]); (repeat' split) <;> first | rfl | omega | exact simOL_refl _ | (simp_all; done) | (simp_all; rfl) | (simp_all; omega) | (simp_all; exact simOL_refl _) | (simp [putL, NoBorL, NoBor]; done))))
  · first | simp only [hb, cond_false] at hR | (simp only [*] at hb; simp only [hb, cond_false] at hR)
    refine AWP.skip ?_
    refine AWP.seq ?_
    refine AWP.regS G_ok laws_FnExactMeetsCategory_DD hc (by kernel_rfl) (fun K hK => ?_); simp only [ea, gv, sv, D_laws_szFaultS, D_laws_toFaultS, D_laws_eqFaultS, D_spec_MeetsCategory, D_impl_MeetsCategory, reduceCtorEq, reduceIte, Nat.reduceBEq, Nat.reduceAdd, Nat.reduceEqDiff, Nat.reduceLT, Nat.reduceLeDiff, Nat.reduceMul, Nat.reduceSub, BEq.rfl, beq_self_eq_true, Int.reduceToNat]
    first | refine hK _ ?_ | refine ⟨by (first | trivial | omega | (simp only [ob, ln, bdv, laws_toFaultS_id, sv] at *; omega) | ((try clear hK K); (repeat' first | apply And.intro | intro _) <;> first | trivial | omega | assumption | solve_by_elim | (apply bd_getD <;> first | assumption | decide) | (apply bd_subL <;> first | assumption | decide) | (simp only [ob, ln, bdv, laws_toFaultS_id, sv] at *; first | omega | assumption | (simp_all; done) | grind))), hK _ ?_⟩
    clear hK K
    refine AWP.seq ?_
    refine AWP.regS G_ok laws_FnExactMeetsCategory_DD hc (by kernel_rfl) (fun K hK => ?_); simp only [ea, gv, sv, D_laws_szFaultS, D_laws_toFaultS, D_laws_eqFaultS, D_spec_MeetsCategory, D_impl_MeetsCategory, reduceCtorEq, reduceIte, Nat.reduceBEq, Nat.reduceAdd, Nat.reduceEqDiff, Nat.reduceLT, Nat.reduceLeDiff, Nat.reduceMul, Nat.reduceSub, BEq.rfl, beq_self_eq_true, Int.reduceToNat]
    first | refine hK _ ?_ | refine ⟨by (first | trivial | omega | (simp only [ob, ln, bdv, laws_toFaultS_id, sv] at *; omega) | ((try clear hK K); (repeat' first | apply And.intro | intro _) <;> first | trivial | omega | assumption | solve_by_elim | (apply bd_getD <;> first | assumption | decide) | (apply bd_subL <;> first | assumption | decide) | (simp only [ob, ln, bdv, laws_toFaultS_id, sv] at *; first | omega | assumption | (simp_all; done) | grind))), hK _ ?_⟩
    clear hK K
    refine AWP.seq ?_
    refine AWP.regS G_ok laws_FnExactMeetsCategory_DD hc (by kernel_rfl) (fun K hK => ?_); simp only [ea, gv, sv, D_laws_szFaultS, D_laws_toFaultS, D_laws_eqFaultS, D_spec_MeetsCategory, D_impl_MeetsCategory, reduceCtorEq, reduceIte, Nat.reduceBEq, Nat.reduceAdd, Nat.reduceEqDiff, Nat.reduceLT, Nat.reduceLeDiff, Nat.reduceMul, Nat.reduceSub, BEq.rfl, beq_self_eq_true, Int.reduceToNat]
    first | refine hK _ ?_ | refine ⟨by (first | trivial | omega | (simp only [ob, ln, bdv, laws_toFaultS_id, sv] at *; omega) | ((try clear hK K); (repeat' first | apply And.intro | intro _) <;> first | trivial | omega | assumption | solve_by_elim | (apply bd_getD <;> first | assumption | decide) | (apply bd_subL <;> first | assumption | decide) | (simp only [ob, ln, bdv, laws_toFaultS_id, sv] at *; first | omega | assumption | (simp_all; done) | grind))), hK _ ?_⟩
    clear hK K
    refine AWP.seq ?_
    refine AWP.seq ?_
    refine AWP.regS G_ok laws_FnExactMeetsCategory_DD hc (by kernel_rfl) (fun K hK => ?_); simp only [ea, gv, sv, D_laws_szFaultS, D_laws_toFaultS, D_laws_eqFaultS, D_spec_MeetsCategory, D_impl_MeetsCategory, reduceCtorEq, reduceIte, Nat.reduceBEq, Nat.reduceAdd, Nat.reduceEqDiff, Nat.reduceLT, Nat.reduceLeDiff, Nat.reduceMul, Nat.reduceSub, BEq.rfl, beq_self_eq_true, Int.reduceToNat]
    first | refine hK _ ?_ | refine ⟨by (first | trivial | omega | (simp only [ob, ln, bdv, laws_toFaultS_id, sv] at *; omega) | ((try clear hK K); (repeat' first | apply And.intro | intro _) <;> first | trivial | omega | assumption | solve_by_elim | (apply bd_getD <;> first | assumption | decide) | (apply bd_subL <;> first | assumption | decide) | (simp only [ob, ln, bdv, laws_toFaultS_id, sv] at *; first | omega | assumption | (simp_all; done) | grind))), hK _ ?_⟩
    clear hK K
    refine AWP.cond rfl (fun hb => ?_) (fun hb => ?_)
    · first | simp only [hb, cond_true] at hR | (simp only [*] at hb; simp only [hb, cond_true] at hR)
      refine AWP.seq ?_
      refine AWP.regS G_ok laws_FnExactMeetsCategory_DD hc (by kernel_rfl) (fun K hK => ?_); simp only [ea, gv, sv, D_laws_szFaultS, D_laws_toFaultS, D_laws_eqFaultS, D_spec_MeetsCategory, D_impl_MeetsCategory, reduceCtorEq, reduceIte, Nat.reduceBEq, Nat.reduceAdd, Nat.reduceEqDiff, Nat.reduceLT, Nat.reduceLeDiff, Nat.reduceMul, Nat.reduceSub, BEq.rfl, beq_self_eq_true, Int.reduceToNat]
      first | refine hK _ ?_ | refine ⟨by (first | trivial | omega | (simp only [ob, ln, bdv, laws_toFaultS_id, sv] at *; omega) | ((try clear hK K); (repeat' first | apply And.intro | intro _) <;> first | trivial | omega | assumption | solve_by_elim | (apply bd_getD <;> first | assumption | decide) | (apply bd_subL <;> first | assumption | decide) | (simp only [ob, ln, bdv, laws_toFaultS_id, sv] at *; first | omega | assumption | (simp_all; done) | grind))), hK _ ?_⟩
      clear hK K
      refine AWP.ret ?_
      subst hR
      (simp only [en, si, ea, gv, sv, hk, reduceCtorEq, reduceIte, Nat.reduceBEq, Nat.reduceAdd, Nat.reduceEqDiff, Nat.reduceLT, Nat.reduceLeDiff, Nat.reduceMul, Nat.reduceSub, BEq.rfl, beq_self_eq_true, Int.reduceToNat]; first | done | trivial | (and_intros <;> first | rfl | trivial | omega | (rw [IntKind.wrap_i64]; omega) | (simp only [ln]; done) | (simp only [ob, ln, bdv, laws_toFaultS_id, sv] at *; first | omega | grind) | (left; intro j hj; simp only [pw, Bool.cond_eq_ite, Bool.and_eq_true, decide_eq_true_eq]; (repeat' split) <;> simp [putL, NoBorL, NoBor]) | (intro j hj; simp only [pw, Bool.cond_eq_ite, Bool.and_eq_true, decide_eq_true_eq]; (try rw [subL_getD _ _ _ _ (by first | assumption | omega)]); (try rw [clearL_getD _ _ _ _ (by first | omega | (simp only [ob, ln, bdv] at *; omega))]); (repeat' split) <;> first | rfl | omega | exact simOL_refl _ | (simp_all; done) | (simp_all; rfl) | (simp_all; omega) | (simp_all; exact simOL_refl _) | (simp [putL, NoBorL, NoBor]; done))))
    · first | simp only [hb, cond_false] at hR | (simp only [*] at hb; simp only [hb, cond_false] at hR)
      refine AWP.skip ?_
      refine AWP.seq ?_
      refine AWP.seq ?_
      refine AWP.regS G_ok laws_FnExactMeetsCategory_DD hc (by kernel_rfl) (fun K hK => ?_); simp only [ea, gv, sv, D_laws_szFaultS, D_laws_toFaultS, D_laws_eqFaultS, D_spec_MeetsCategory, D_impl_MeetsCategory, reduceCtorEq, reduceIte, Nat.reduceBEq, Nat.reduceAdd, Nat.reduceEqDiff, Nat.reduceLT, Nat.reduceLeDiff, Nat.reduceMul, Nat.reduceSub, BEq.rfl, beq_self_eq_true, Int.reduceToNat]
      first | refine hK _ ?_ | refine ⟨by (first | trivial | omega | (simp only [ob, ln, bdv, laws_toFaultS_id, sv] at *; omega) | ((try clear hK K); (repeat' first | apply And.intro | intro _) <;> first | trivial | omega | assumption | solve_by_elim | (apply bd_getD <;> first | assumption | decide) | (apply bd_subL <;> first | assumption | decide) | (simp only [ob, ln, bdv, laws_toFaultS_id, sv] at *; first | omega | assumption | (simp_all; done) | grind))), hK _ ?_⟩
      clear hK K
      refine AWP.cond rfl (fun hb => ?_) (fun hb => ?_)
      · first | simp only [hb, cond_true] at hR | (simp only [*] at hb; simp only [hb, cond_true] at hR)
        refine AWP.seq ?_
        refine AWP.regS G_ok laws_FnExactMeetsCategory_DD hc (by kernel_rfl) (fun K hK => ?_); simp only [ea, gv, sv, D_laws_szFaultS, D_laws_toFaultS, D_laws_eqFaultS, D_spec_MeetsCategory, D_impl_MeetsCategory, reduceCtorEq, reduceIte, Nat.reduceBEq, Nat.reduceAdd, Nat.reduceEqDiff, Nat.reduceLT, Nat.reduceLeDiff, Nat.reduceMul, Nat.reduceSub, BEq.rfl, beq_self_eq_true, Int.reduceToNat]
        first | refine hK _ ?_ | refine ⟨by (first | trivial | omega | (simp only [ob, ln, bdv, laws_toFaultS_id, sv] at *; omega) | ((try clear hK K); (repeat' first | apply And.intro | intro _) <;> first | trivial | omega | assumption | solve_by_elim | (apply bd_getD <;> first | assumption | decide) | (apply bd_subL <;> first | assumption | decide) | (simp only [ob, ln, bdv, laws_toFaultS_id, sv] at *; first | omega | assumption | (simp_all; done) | grind))), hK _ ?_⟩
        clear hK K
        refine AWP.ret ?_
        subst hR
        (simp only [en, si, ea, gv, sv, hk, reduceCtorEq, reduceIte, Nat.reduceBEq, Nat.reduceAdd, Nat.reduceEqDiff, Nat.reduceLT, Nat.reduceLeDiff, Nat.reduceMul, Nat.reduceSub, BEq.rfl, beq_self_eq_true, Int.reduceToNat]; first | done | trivial | (and_intros <;> first | rfl | trivial | omega | (rw [IntKind.wrap_i64]; omega) | (simp only [ln]; done) | (simp only [ob, ln, bdv, laws_toFaultS_id, sv] at *; first | omega | grind) | (left; intro j hj; simp only [pw, Bool.cond_eq_ite, Bool.and_eq_true, decide_eq_true_eq]; (repeat' split) <;> simp [putL, NoBorL, NoBor]) | (intro j hj; simp only [pw, Bool.cond_eq_ite, Bool.and_eq_true, decide_eq_true_eq]; (try rw [subL_getD _ _ _ _ (by first | assumption | omega)]); (try rw [clearL_getD _ _ _ _ (by first | omega | (simp only [ob, ln, bdv] at *; omega))]); (repeat' split) <;> first | rfl | omega | exact simOL_refl _ | (simp_all; done) | (simp_all; rfl) | (simp_all; omega) | (simp_all; exact simOL_refl _) | (simp [putL, NoBorL, NoBor]; done))))
      · first | simp only [hb, cond_false] at hR | (simp only [*] at hb; simp only [hb, cond_false] at hR)
        refine AWP.skip ?_
        refine AWP.seq ?_
        refine AWP.regS G_ok laws_FnExactMeetsCategory_DD hc (by kernel_rfl) (fun K hK => ?_); simp only [ea, gv, sv, D_laws_szFaultS, D_laws_toFaultS, D_laws_eqFaultS, D_spec_MeetsCategory, D_impl_MeetsCategory, reduceCtorEq, reduceIte, Nat.reduceBEq, Nat.reduceAdd, Nat.reduceEqDiff, Nat.reduceLT, Nat.reduceLeDiff, Nat.reduceMul, Nat.reduceSub, BEq.rfl, beq_self_eq_true, Int.reduceToNat]
        first | refine hK _ ?_ | refine ⟨by (first | trivial | omega | (simp only [ob, ln, bdv, laws_toFaultS_id, sv] at *; omega) | ((try clear hK K); (repeat' first | apply And.intro | intro _) <;> first | trivial | omega | assumption | solve_by_elim | (apply bd_getD <;> first | assumption | decide) | (apply bd_subL <;> first | assumption | decide) | (simp only [ob, ln, bdv, laws_toFaultS_id, sv] at *; first | omega | assumption | (simp_all; done) | grind))), hK _ ?_⟩
        clear hK K
        refine AWP.ret ?_
        subst hR
        (simp only [en, si, ea, gv, sv, hk, reduceCtorEq, reduceIte, Nat.reduceBEq, Nat.reduceAdd, Nat.reduceEqDiff, Nat.reduceLT, Nat.reduceLeDiff, Nat.reduceMul, Nat.reduceSub, BEq.rfl, beq_self_eq_true, Int.reduceToNat]; first | done | trivial | (and_intros <;> first | rfl | trivial | omega | (rw [IntKind.wrap_i64]; omega) | (simp only [ln]; done) | (simp only [ob, ln, bdv, laws_toFaultS_id, sv] at *; first | omega | grind) | (left; intro j hj; simp only [pw, Bool.cond_eq_ite, Bool.and_eq_true, decide_eq_true_eq]; (repeat' split) <;> simp [putL, NoBorL, NoBor]) | (intro j hj; simp only [pw, Bool.cond_eq_ite, Bool.and_eq_true, decide_eq_true_eq]; (try rw [subL_getD _ _ _ _ (by first | assumption | omega)]); (try rw [clearL_getD _ _ _ _ (by first | omega | (simp only [ob, ln, bdv] at *; omega))]); (repeat' split) <;> first | rfl | omega | exact simOL_refl _ | (simp_all; done) | (simp_all; rfl) | (simp_all; omega) | (simp_all; exact simOL_refl _) | (simp [putL, NoBorL, NoBor]; done))))

def D_laws_FnExactMeetsCategory : DF
  | [x0, x1, x2, x3, x4] => some (.bool (laws_FnExactMeetsCategory (rdL dFault x0) (rdI x1) (rdI x2) (rdI x3) (rdI x4)), false, [wL 4 eFault dFault x0, wI .i64 x1, wI .i64 x2, wI .i64 x3, wI .i64 x4, (rdL dFault x0).length < 9223372036854775808])
  | _ => none
theorem D_laws_FnExactMeetsCategory_ok : OkD Try.prog 13 D_laws_FnExactMeetsCategory := by
  intro xs r z ob h ho
  unfold D_laws_FnExactMeetsCategory at h
  split at h
  · simp only [Option.some.injEq, Prod.mk.injEq] at h
    obtain ⟨rfl, rfl, rfl⟩ := h
    obtain ⟨h0, h1, h2, h3, h4, hb0, _⟩ := ho
    exact Den.sim (laws_FnExactMeetsCategory_den _ _ _ _ _ hb0) (simOL_cons (wL_sim h0).1 <| simOL_cons (wI_sim h1).1 <| simOL_cons (wI_sim h2).1 <| simOL_cons (wI_sim h3).1 <| simOL_cons (wI_sim h4).1 <| trivial) (noIdL_cons (wL_sim h0).2 <| noIdL_cons (wI_sim h1).2 <| noIdL_cons (wI_sim h2).2 <| noIdL_cons (wI_sim h3).2 <| noIdL_cons (wI_sim h4).2 <| rfl) rfl
  · cases h
end Go.Ab

namespace Go.Ab
open Go Go.Proofs
theorem need_cases (c : Int) : ((1 ≤ c ∧ c ≤ 3) ∧ impl_CategoryNeed c = (spec_l20Need c, 0)) ∨ (¬ (1 ≤ c ∧ c ≤ 3) ∧ (impl_CategoryNeed c).2 = 2) := by
  by_cases h : 1 ≤ c ∧ c ≤ 3
  · left
    refine ⟨h, ?_⟩
    obtain rfl | rfl | rfl : c = 1 ∨ c = 2 ∨ c = 3 := by omega
    · rfl
    · rfl
    · rfl
  · right
    refine ⟨h, ?_⟩
    have h1 : (c == 1) = false := by simp; omega
    have h2 : (c == 2) = false := by simp; omega
    have h3 : (c == 3) = false := by simp; omega
    unfold impl_CategoryNeed
    rw [h1, h2, h3]; rfl
theorem meetsCategory_eq (a : List Fault) (x c p q : Int) (hl : a.length < 1099511627776) : impl_MeetsCategory a x c p q = spec_MeetsCategory a x c p q := by
  unfold impl_MeetsCategory spec_MeetsCategory
  rw [availabilityOf_eq a x p q hl]
  unfold spec_AvailabilityOf spec_l00In
  by_cases h : spec_l20Ask a p q = 0
  · rw [h]
    rcases need_cases c with ⟨⟨h1, h2⟩, h3⟩ | ⟨h1, h3⟩
    · rw [h3]; simp [h1, h2]
    · rw [h3]
      simp only [Bool.true_and, bne_self_eq_false, cond_false, beq_self_eq_true]
      have : (decide (1 ≤ c) && decide (c ≤ 3)) = false := by simp; omega
      rw [this]; simp
  · have h1 : (spec_l20Ask a p q != 0) = true := by simpa using h
    have h2 : (spec_l20Ask a p q == 0) = false := by simpa using h
    rw [h1, h2]
    simp [h2]
theorem law_MeetsCategory (a : List Fault) (x c p q : Int) (hl : a.length < 9223372036854775808) : laws_FnExactMeetsCategory a x c p q = true := by
  unfold laws_FnExactMeetsCategory
  have hf := laws_szFaultS_facts a 1048576 (by omega) (by omega) hl
  simp only [laws_toFaultS_id, laws_eqFaultS_dec]
  by_cases h : laws_szFaultS a 1048576 < 0
  · simp [h]
  · have := hf.2.2 h
    rw [meetsCategory_eq a x c p q (by omega)]
    simp
end Go.Ab

namespace Go.Ab
open Go Go.Proofs Go.Deep Go.Joins Go.ChangeShapes Go.WideShapes Go.ChangeAt Go.RowKit
theorem Fault_cells {H : Type} {enc : TypeId × Value → H} {W : World} {base : Nat} {sp : Nat → Bool} {hd : Bool} {fuel : Nat} {cs : List Value} {x : DataW H × List MemPlace}
    (h : DataW.trod enc Try.prog W base sp hd fuel 72 cs = some x) : ∃ v : Fault, cs = [.int .i64 v.Aid, .int .i64 v.Kind, .int .i64 v.From, .int .i64 v.Until] := by
  obtain ⟨y0, y1, y2, y3, n, _, hl, h0, h1, h2, h3⟩ := trod_struct4 Try.underlying72 h
  have e0 : Try.prog.cellsOf 72 = 4 := by kernel_rfl
  have e2 : Try.prog.cellsOf 2 = 1 := by kernel_rfl
  simp only [e0, e2] at hl h0 h1 h2 h3
  match cs, hl with
  | [c0, c1, c2, c3], _ =>
    obtain ⟨n0, q0, _⟩ := DataW.trod_int Try.underlying2 h0
    obtain ⟨n1, q1, _⟩ := DataW.trod_int Try.underlying2 h1
    obtain ⟨n2, q2, _⟩ := DataW.trod_int Try.underlying2 h2
    obtain ⟨n3, q3, _⟩ := DataW.trod_int Try.underlying2 h3
    simp at q0 q1 q2 q3
    subst q0
    subst q1
    subst q2
    subst q3
    exact ⟨⟨n0, n1, n2, n3⟩, rfl⟩

set_option maxRecDepth 100000 in
theorem Fault_list {H : Type} {enc : TypeId × Value → H} {W : World} {base : Nat} {v : Value} {d : DataW H} {ps : List MemPlace} (hval : Value.okWide Try.prog W .any base 22 v) (h : DataW.Trod enc Try.prog W 0 (fun _ => true) true 22 v d ps) :
    ∃ a : List Fault, a.length < 9223372036854775808 ∧ Rep W (fun _ => False) (encL 4 eFault a) noMap v [] := by
  obtain ⟨fuel, h⟩ := h
  obtain ⟨oa, len, cap, rfl⟩ := okWide_slice Try.underlying22 hval
  have e33 : Try.prog.cellsOf 72 = 4 := by kernel_rfl
  rcases open_slice Try.underlying22 h with ⟨h1, _⟩ | ⟨a, len', cap', m, n, D, Pl, h1, hb, hl, hm, hme, _, hel⟩
  · simp [Value.cells] at h1
    obtain ⟨rfl, rfl, rfl⟩ := h1
    exact ⟨[], Nat.lt_of_lt_of_le (Nat.zero_lt_one) (by omega), by simp [encL, Rep]⟩
  · simp [Value.cells] at h1
    obtain ⟨rfl, rfl, rfl⟩ := h1
    simp only [if_true] at hme
    subst hme
    have hhas : a.spot = none ∧ a.block < W.heap.size := by
      simp only [Value.okWide, Try.underlying22, Cell.okWide, Cell.ok, World.has] at hval
      obtain ⟨_, _, _, h4, row, cells, h5, _⟩ := hval
      refine ⟨h4, ?_⟩
      rcases Nat.lt_or_ge a.block W.heap.size with h | h
      · exact h
      · simp [World.shape?, Array.getElem?_eq_none h] at h5
    obtain ⟨b, o, sp⟩ := a
    obtain ⟨rfl, hblt⟩ := hhas
    have hex : ∀ i, ∃ u : Fault, (i < len → ∀ j x, [Value.int .i64 u.Aid, .int .i64 u.Kind, .int .i64 u.From, .int .i64 u.Until][j]? = some x → W.cell? ⟨b, o + i * 4 + j, none⟩ = some x ∧ x.oneCell' = true) := by
      intro i
      by_cases hi : i < len
      · obtain ⟨cs, hc, ht⟩ := hel i (by omega)
        obtain ⟨u, rfl⟩ := Fault_cells ht
        refine ⟨u, fun _ j x hx => ?_⟩
        obtain ⟨_, _, hc3⟩ := World.cells?_some hc
        rw [e33] at hc3
        have hj : j < 4 := by
          rcases Nat.lt_or_ge j 4 with h | h
          · exact h
          · rw [List.getElem?_eq_none (by simpa using h)] at hx; cases hx
        have := hc3 j hj
        rw [hx] at this
        rw [Addr.add_lit, Addr.add_lit] at this
        refine ⟨this, ?_⟩
        match j, hj with
        | 0, _ => simp at hx; subst hx; rfl
        | 1, _ => simp at hx; subst hx; rfl
        | 2, _ => simp at hx; subst hx; rfl
        | 3, _ => simp at hx; subst hx; rfl
      · exact ⟨default, fun h => absurd h hi⟩
    obtain ⟨g, hg⟩ := Classical.axiomOfChoice hex
    refine ⟨(List.range len).map g, ?_, ?_⟩
    · simp only [List.length_map, List.length_range]
      have : maxLen = 9223372036854775807 := by decide
      omega
    · simp only [encL, Rep]
      refine .inr ⟨b, o, m, fun i => [Value.int .i64 (g i).Aid, .int .i64 (g i).Kind, .int .i64 (g i).From, .int .i64 (g i).Until], fun _ => [], by simp, by simpa using hl, hblt, ?_, by simp, trivial, by simp⟩
      intro i hi
      simp at hi
      have : ((List.range len).map g).getD i default = g i := by simp [List.getD_eq_getElem?_getD, hi]
      rw [this]
      refine ⟨?_, rfl, fun j u hu => (hg i) hi j u hu⟩
      simp only [eFault, RepL, Rep]
      exact ⟨_, _, [], [], rfl, rfl, ⟨rfl, rfl⟩, _, _, [], [], rfl, rfl, ⟨rfl, rfl⟩, _, _, [], [], rfl, rfl, ⟨rfl, rfl⟩, _, _, [], [], rfl, rfl, ⟨rfl, rfl⟩, rfl, rfl⟩
end Go.Ab
