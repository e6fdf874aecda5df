/- A part of a proof: walks of functions and lemmas of our own. No conditions. -/
import Derived.Test.YtapfmnafakdhmaaTAk
import Derived.Test.YtapfmnafakdhmaaTAi
import Derived.Deep.Slices
import Derived.Deep.Strs
import Derived.Lib.SmallJoins
import Derived.Test.YtapfmnafakdhmaaRows
set_option linter.unusedVariables false
set_option linter.unusedSimpArgs false
namespace Go.Ab
open Go Go.Proofs

theorem loopR_rel2 {ρ ρ' σ τ : Type} {b1 : Nat → σ → Except ρ σ} {b2 : Nat → τ → Except ρ' τ} (R : Nat → σ → τ → Prop) : ∀ {k i : Nat} {s : σ} {t : τ}, R i s t →
    (∀ j u v, i ≤ j → j < i + k → R j u v → ∃ u' v', b1 j u = .ok u' ∧ b2 j v = .ok v' ∧ R (j + 1) u' v') →
    ∃ s' t', loopR b1 k i s = .ok s' ∧ loopR b2 k i t = .ok t' ∧ R (i + k) s' t'
  | 0, i, s, t, h, _ => ⟨s, t, rfl, rfl, h⟩
  | k + 1, i, s, t, h, hs => by
    obtain ⟨u, v, h1, h2, h3⟩ := hs i s t (Nat.le_refl _) (by omega) h
    obtain ⟨s', t', h4, h5, h6⟩ := loopR_rel2 R (k := k) h3 (fun j u v q1 q2 => hs j u v (by omega) (by omega))
    refine ⟨s', t', ?_, ?_, ?_⟩
    · simp only [loopR, h1]; exact h4
    · simp only [loopR, h2]; exact h5
    · have e : i + (k + 1) = i + 1 + k := by omega
      rw [e]; exact h6

theorem ok_any (a : List Fault) (hl : a.length < 1099511627776) (h : spec_l20Ok a = true) : ∀ j, j < a.length → pS a j = false := by
  unfold spec_l20Ok at h
  rw [loopR_any (b := spec_l20Ok_b1 a) (pS a) false (fun j u _ _ => by
    simp only [spec_l20Ok_b1, pS]
    rw [loopR_any (b := spec_l20Ok_b2 a j u) (qS a j) false (fun k u _ _ => rfl)]
    simp only [Nat.sub_zero, Nat.zero_add]
    generalize ((!(spec_l20One (a.getD j default))) || (decide (0 < (j : Int)) && (!(spec_l20Less (a.getD ((IntKind.wrap .i64 ((j : Int) - 1)).toNat) default) (a.getD j default))))) = c
    generalize (List.range j).any (qS a j) = d
    cases c <;> cases d <;> rfl)] at h
  simp only [Nat.sub_zero, Nat.zero_add] at h
  intro j hj
  cases hp : pS a j with
  | false => rfl
  | true =>
    have : (List.range a.length).any (fun j => pS a j) = true := List.any_eq_true.2 ⟨j, List.mem_range.2 hj, hp⟩
    rw [this] at h
    simp at h

theorem ok_facts (a : List Fault) (hl : a.length < 1099511627776) (h : spec_l20Ok a = true) :
    (∀ j, j < a.length → vF (a.getD j default)) ∧ (∀ i j, i ≤ j → j < a.length → (a.getD i default).From ≤ (a.getD j default).From) := by
  have hp := ok_any a hl h
  have h1 : ∀ j, j < a.length → vF (a.getD j default) := by
    intro j hj
    refine Classical.byContradiction fun hn => ?_
    have := (pS_iff a j (by omega)).2 (.inl hn)
    rw [hp j hj] at this; cases this
  refine ⟨h1, fun i j hij hj => chain_le a j ?_ i hij⟩
  intro q hq hqj
  refine Classical.byContradiction fun hn => ?_
  have := (pS_iff a q (by omega)).2 (.inr (.inl ⟨hq, hn⟩))
  rw [hp q (by omega)] at this; cases this

theorem down_eq (a : List Fault) (x p q : Int) (hl : a.length < 1099511627776) (h : spec_l20Ok a = true) (h1 : 0 ≤ p) (h2 : p < q) (h3 : q ≤ 143999999) :
    impl_down a x p q = spec_l20Down a x p q ∧ 0 ≤ spec_l20Down a x p q ∧ spec_l20Down a x p q ≤ q - p := by
  obtain ⟨hv, hs⟩ := ok_facts a hl h
  unfold impl_down spec_l20Down
  obtain ⟨s, t, e1, e2, hR⟩ := loopR_rel2 (b1 := impl_down_b1 a x p q) (b2 := spec_l20Down_b1 a x p q) (k := a.length - 0) (i := 0) (s := (p, 0)) (t := (0, p))
    (fun j u v => u.2 = v.1 ∧ 0 ≤ v.1 ∧ v.1 ≤ v.2 - p ∧ p ≤ v.2 ∧ v.2 ≤ q ∧ p ≤ u.1 ∧ u.1 ≤ 144000000 ∧ (u.1 = v.2 ∨ (q ≤ u.1 ∧ (v.2 = q ∨ ∀ k, j ≤ k → k < a.length → q ≤ (a.getD k default).From))))
    ⟨rfl, Int.le_refl _, by simp, Int.le_refl _, by simp only; omega, Int.le_refl _, by simp only; omega, .inl rfl⟩ (by
      intro j u v _ hj ⟨r1, r2, r3, r4, r5, r6, r7, r8⟩
      obtain ⟨cu, tu⟩ := u
      obtain ⟨tv, av⟩ := v
      simp only at r1 r2 r3 r4 r5 r6 r7 r8
      subst r1
      have hvj := hv j (by omega)
      have hsj := fun k h1 h2 => hs j k h1 h2
      have hq : (∀ k, j ≤ k → k < a.length → q ≤ (a.getD k default).From) → q ≤ (a.getD j default).From := fun hh => hh j (Nat.le_refl _) (by omega)
      simp only [impl_down_b1, spec_l20Down_b1]
      generalize a.getD j default = f at *
      have he : impl_Fault_end f = endF f := by simp only [impl_Fault_end, endF, Bool.cond_eq_ite, beq_iff_eq]
      have he' : spec_l20End f = endF f := by simp only [spec_l20End, endF, Bool.cond_eq_ite, beq_iff_eq]
      have hb : f.From < endF f ∧ endF f ≤ 144000000 ∧ 0 ≤ f.From := by
        unfold vF at hvj; unfold endF; split <;> omega
      rw [he, he']
      generalize endF f = e at *
      by_cases hA : f.Aid = x
      · subst hA
        simp only [spec_l00Max, spec_l00Min, bne_self_eq_false, beq_self_eq_true, Bool.true_and, Bool.cond_eq_ite, decide_eq_true_eq, IntKind.wrap_i64, Bool.false_eq_true, if_false]
        have hPq : q ≤ f.From → ∀ k, j + 1 ≤ k → k < a.length → q ≤ (a.getD k default).From := fun hh k h1 h2 => by
          have := hsj k (by omega) h2
          omega
        have hk : cu = av ∨ (q ≤ cu ∧ av = q) ∨ (q ≤ cu ∧ q ≤ f.From) := by
          rcases r8 with r8 | ⟨r8, r9 | r9⟩
          · exact .inl r8
          · exact .inr (.inl ⟨r8, r9⟩)
          · exact .inr (.inr ⟨r8, hq r9⟩)
        have hn : ∀ X Y : Int, X = Y ∨ (q ≤ X ∧ (Y = q ∨ q ≤ f.From)) → (X = Y ∨ (q ≤ X ∧ (Y = q ∨ ∀ k, j + 1 ≤ k → k < a.length → q ≤ (a.getD k default).From))) := fun X Y hh => by
          rcases hh with r8 | ⟨r8, r9 | r9⟩
          · exact .inl r8
          · exact .inr ⟨r8, .inl r9⟩
          · exact .inr ⟨r8, .inr (hPq r9)⟩
        clear hq hsj hvj r8 hPq he he' hs hv
        by_cases c1 : cu < e
        · simp only [if_pos c1]
          by_cases c2 : (if f.From < av then av else f.From) < (if q < e then q else e)
          · simp only [if_pos c2]
            refine ⟨_, _, rfl, rfl, ?_⟩
            simp only
            refine ⟨?_, ?_, ?_, ?_, ?_, ?_, ?_, hn _ _ ?_⟩ <;> (clear hn; (repeat' split at *) <;> omega)
          · simp only [if_neg c2]
            refine ⟨_, _, rfl, rfl, ?_⟩
            simp only
            refine ⟨?_, ?_, ?_, ?_, ?_, ?_, ?_, hn _ _ ?_⟩ <;> (clear hn; (repeat' split at *) <;> omega)
        · simp only [if_neg c1]
          have c2 : ¬ (if f.From < av then av else f.From) < (if q < e then q else e) := by
            have hM : (f.From < av ∧ (if f.From < av then av else f.From) = av) ∨ (av ≤ f.From ∧ (if f.From < av then av else f.From) = f.From) := by split <;> simp <;> omega
            have hN : (q < e ∧ (if q < e then q else e) = q) ∨ (e ≤ q ∧ (if q < e then q else e) = e) := by split <;> simp <;> omega
            generalize (if f.From < av then av else f.From) = M at hM ⊢
            generalize (if q < e then q else e) = N at hN ⊢
            omega
          · simp only [if_neg c2]
            refine ⟨_, _, rfl, rfl, ?_⟩
            simp only
            exact ⟨trivial, r2, r3, r4, r5, r6, r7, hn _ _ (by clear hn; omega)⟩
      · have hA1 : (f.Aid == x) = false := by simpa using hA
        have hA2 : (f.Aid != x) = true := by simpa using hA
        simp only [hA1, hA2, Bool.false_and, cond_true, cond_false]
        refine ⟨_, _, rfl, rfl, rfl, r2, r3, r4, r5, r6, r7, ?_⟩
        rcases r8 with r8 | ⟨r8, r9 | r9⟩
        · exact .inl r8
        · exact .inr ⟨r8, .inl r9⟩
        · exact .inr ⟨r8, .inr fun k h1 h2 => r9 k (by omega) h2⟩)
  rw [e1, e2]
  simp only
  obtain ⟨r1, r2, r3, r4, r5, _⟩ := hR
  omega
end Go.Ab

namespace Go.Ab
open Go Go.Proofs
theorem span_eq (a : List Fault) (p q : Int) (hl : a.length < 1099511627776) : impl_spanCode a p q = spec_l20Ask a p q := by
  have h := validFaults_eq a hl
  unfold spec_ValidFaults at h
  unfold impl_spanCode spec_l20Ask
  rw [h]; rfl
theorem ask_facts (a : List Fault) (p q : Int) (h : spec_l20Ask a p q = 0) : spec_l20Ok a = true ∧ 0 ≤ p ∧ p < q ∧ q ≤ 143999999 := by
  unfold spec_l20Ask spec_l20Time spec_l00In at h
  cases h1 : spec_l20Ok a with
  | false => rw [h1] at h; simp at h
  | true =>
    rw [h1] at h
    simp only [Bool.not_true, cond_false, Bool.cond_eq_ite, Bool.or_eq_true, Bool.not_eq_true', Bool.and_eq_false_iff, decide_eq_false_iff_not, decide_eq_true_eq] at h
    split at h
    · simp at h
    · refine ⟨rfl, ?_⟩; omega
theorem downTime_eq (a : List Fault) (x p q : Int) (hl : a.length < 1099511627776) : impl_DownTime a x p q = spec_DownTime a x p q := by
  unfold impl_DownTime spec_DownTime
  rw [span_eq a p q hl]
  by_cases h : spec_l20Ask a p q = 0
  · obtain ⟨h1, h2, h3, h4⟩ := ask_facts a p q h
    rw [(down_eq a x p q hl h1 h2 h3 h4).1]
  · have : (spec_l20Ask a p q != 0) = true := by simpa using h
    rw [this]; rfl
theorem law_DownTime (a : List Fault) (x p q : Int) (hl : a.length < 9223372036854775808) : laws_FnExactDownTime a x p q = true := by
  unfold laws_FnExactDownTime
  have hf := laws_szFaultS_facts a 1048576 (by omega) (by omega) hl
  simp only [laws_toFaultS_id, laws_eqFaultS_dec]
  by_cases h : laws_szFaultS a 1048576 < 0
  · simp [h]
  · have := hf.2.2 h
    rw [downTime_eq a x p q (by omega)]
    simp
end Go.Ab

namespace Go.Ab
open Go Go.Proofs Go.Deep Go.Joins Go.ChangeShapes Go.WideShapes Go.ChangeAt Go.RowKit
theorem Fault_cells {H : Type} {enc : TypeId × Value → H} {W : World} {base : Nat} {sp : Nat → Bool} {hd : Bool} {fuel : Nat} {cs : List Value} {x : DataW H × List MemPlace}
    (h : DataW.trod enc Try.prog W base sp hd fuel 72 cs = some x) : ∃ v : Fault, cs = [.int .i64 v.Aid, .int .i64 v.Kind, .int .i64 v.From, .int .i64 v.Until] := by
  obtain ⟨y0, y1, y2, y3, n, _, hl, h0, h1, h2, h3⟩ := trod_struct4 Try.underlying72 h
  have e0 : Try.prog.cellsOf 72 = 4 := by kernel_rfl
  have e2 : Try.prog.cellsOf 2 = 1 := by kernel_rfl
  simp only [e0, e2] at hl h0 h1 h2 h3
  match cs, hl with
  | [c0, c1, c2, c3], _ =>
    obtain ⟨n0, q0, _⟩ := DataW.trod_int Try.underlying2 h0
    obtain ⟨n1, q1, _⟩ := DataW.trod_int Try.underlying2 h1
    obtain ⟨n2, q2, _⟩ := DataW.trod_int Try.underlying2 h2
    obtain ⟨n3, q3, _⟩ := DataW.trod_int Try.underlying2 h3
    simp at q0 q1 q2 q3
    subst q0
    subst q1
    subst q2
    subst q3
    exact ⟨⟨n0, n1, n2, n3⟩, rfl⟩

set_option maxRecDepth 100000 in
theorem Fault_list {H : Type} {enc : TypeId × Value → H} {W : World} {base : Nat} {v : Value} {d : DataW H} {ps : List MemPlace} (hval : Value.okWide Try.prog W .any base 22 v) (h : DataW.Trod enc Try.prog W 0 (fun _ => true) true 22 v d ps) :
    ∃ a : List Fault, a.length < 9223372036854775808 ∧ Rep W (fun _ => False) (encL 4 eFault a) noMap v [] := by
  obtain ⟨fuel, h⟩ := h
  obtain ⟨oa, len, cap, rfl⟩ := okWide_slice Try.underlying22 hval
  have e33 : Try.prog.cellsOf 72 = 4 := by kernel_rfl
  rcases open_slice Try.underlying22 h with ⟨h1, _⟩ | ⟨a, len', cap', m, n, D, Pl, h1, hb, hl, hm, hme, _, hel⟩
  · simp [Value.cells] at h1
    obtain ⟨rfl, rfl, rfl⟩ := h1
    exact ⟨[], Nat.lt_of_lt_of_le (Nat.zero_lt_one) (by omega), by simp [encL, Rep]⟩
  · simp [Value.cells] at h1
    obtain ⟨rfl, rfl, rfl⟩ := h1
    simp only [if_true] at hme
    subst hme
    have hhas : a.spot = none ∧ a.block < W.heap.size := by
      simp only [Value.okWide, Try.underlying22, Cell.okWide, Cell.ok, World.has] at hval
      obtain ⟨_, _, _, h4, row, cells, h5, _⟩ := hval
      refine ⟨h4, ?_⟩
      rcases Nat.lt_or_ge a.block W.heap.size with h | h
      · exact h
      · simp [World.shape?, Array.getElem?_eq_none h] at h5
    obtain ⟨b, o, sp⟩ := a
    obtain ⟨rfl, hblt⟩ := hhas
    have hex : ∀ i, ∃ u : Fault, (i < len → ∀ j x, [Value.int .i64 u.Aid, .int .i64 u.Kind, .int .i64 u.From, .int .i64 u.Until][j]? = some x → W.cell? ⟨b, o + i * 4 + j, none⟩ = some x ∧ x.oneCell' = true) := by
      intro i
      by_cases hi : i < len
      · obtain ⟨cs, hc, ht⟩ := hel i (by omega)
        obtain ⟨u, rfl⟩ := Fault_cells ht
        refine ⟨u, fun _ j x hx => ?_⟩
        obtain ⟨_, _, hc3⟩ := World.cells?_some hc
        rw [e33] at hc3
        have hj : j < 4 := by
          rcases Nat.lt_or_ge j 4 with h | h
          · exact h
          · rw [List.getElem?_eq_none (by simpa using h)] at hx; cases hx
        have := hc3 j hj
        rw [hx] at this
        rw [Addr.add_lit, Addr.add_lit] at this
        refine ⟨this, ?_⟩
        match j, hj with
        | 0, _ => simp at hx; subst hx; rfl
        | 1, _ => simp at hx; subst hx; rfl
        | 2, _ => simp at hx; subst hx; rfl
        | 3, _ => simp at hx; subst hx; rfl
      · exact ⟨default, fun h => absurd h hi⟩
    obtain ⟨g, hg⟩ := Classical.axiomOfChoice hex
    refine ⟨(List.range len).map g, ?_, ?_⟩
    · simp only [List.length_map, List.length_range]
      have : maxLen = 9223372036854775807 := by decide
      omega
    · simp only [encL, Rep]
      refine .inr ⟨b, o, m, fun i => [Value.int .i64 (g i).Aid, .int .i64 (g i).Kind, .int .i64 (g i).From, .int .i64 (g i).Until], fun _ => [], by simp, by simpa using hl, hblt, ?_, by simp, trivial, by simp⟩
      intro i hi
      simp at hi
      have : ((List.range len).map g).getD i default = g i := by simp [List.getD_eq_getElem?_getD, hi]
      rw [this]
      refine ⟨?_, rfl, fun j u hu => (hg i) hi j u hu⟩
      simp only [eFault, RepL, Rep]
      exact ⟨_, _, [], [], rfl, rfl, ⟨rfl, rfl⟩, _, _, [], [], rfl, rfl, ⟨rfl, rfl⟩, _, _, [], [], rfl, rfl, ⟨rfl, rfl⟩, _, _, [], [], rfl, rfl, ⟨rfl, rfl⟩, rfl, rfl⟩
end Go.Ab
