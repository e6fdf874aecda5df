/- A part of a proof: walks of functions and lemmas of our own. No conditions. -/
import Derived.Test.YtaneiddiakjgdaaGreatDoorUBd
import Derived.Test.YtaneiddiakjgdaaGreatDoorUBa
import Derived.Test.YtaneiddiakjgdaaGreatDoorUBb
import Derived.Test.YtaneiddiakjgdaaGreatDoorUAu
import Derived.Test.YtaneiddiakjgdaaGreatDoorUAs
import Derived.Test.YtaneiddiakjgdaaGreatDoorUAz
import Derived.Test.YtaneiddiakjgdaaGreatDoorUAv
import Derived.Test.YtaneiddiakjgdaaGreatDoorUAx
set_option linter.unusedSectionVars false
set_option linter.unusedVariables false
set_option linter.unusedSimpArgs false
set_option maxHeartbeats 1000000
namespace Go.Ab
open Go Go.Proofs
def zeroA : Aid := { Number := 0, Name := [], At := { X := 0, Y := 0 : Point }, Height := 0, Mark := { Kind := 0, Colors := [], Shape := [], Topmark := [] : Mark }, Light := { Kind := 0, Group := [], Letter := [], Colors := [], Period := 0 : Character }, Sectors := [], Intensity := 0 : Aid }
theorem l12Same_dec (a b : Aid) : ztc a b = decide (a = b) := by
 unfold ztc zne
 rw [l00Same_eq, same_int64_dec, sameSectors_eq, same_Sector_dec]
 obtain ⟨a1, a2, ⟨a3, a4⟩, a5, ⟨a6, a7, a8, a9⟩, ⟨a10, a11, a12, a13, a14⟩, a15, a16⟩ := a
 obtain ⟨b1, b2, ⟨b3, b4⟩, b5, ⟨b6, b7, b8, b9⟩, ⟨b10, b11, b12, b13, b14⟩, b15, b16⟩ := b
 apply Bool.eq_iff_iff.2
 simp only [Bool.and_eq_true, beq_iff_eq, decide_eq_true_eq, Aid.mk.injEq, Point.mk.injEq, Mark.mk.injEq, Character.mk.injEq]
 constructor
 ·rintro ⟨⟨⟨⟨⟨⟨⟨h1, h2⟩, h3, h4⟩, h5⟩, h6, h7, h8, h9⟩, ⟨⟨⟨h10, h11⟩, h12⟩, h13⟩, h14⟩, h15⟩, h16⟩
  exact ⟨h1, h2, ⟨h3, h4⟩, h5, ⟨h6, h7, h8, h9⟩, ⟨h10, h11, h12, h13, h14⟩, h15, h16⟩
 ·rintro ⟨h1, h2, ⟨h3, h4⟩, h5, ⟨h6, h7, h8, h9⟩, ⟨h10, h11, h12, h13, h14⟩, h15, h16⟩
  exact ⟨⟨⟨⟨⟨⟨⟨h1, h2⟩, h3, h4⟩, h5⟩, h6, h7, h8, h9⟩, ⟨⟨⟨h10, h11⟩, h12⟩, h13⟩, h14⟩, h15⟩, h16⟩
def stA (l : List Aid) (n : Int) : Aid := bif hasN l n then l.getD (upto l n) default else zeroA
theorem l23State_eq (l : List Aid) (n : Int) (h : okA l) : zhb l n = stA l n := by
 unfold zhb stA
 rw [find_eq l n h.2.1]
 cases hasN l n with
 | true => simp only [cond_true]; rw [decide_eq_false (by omega)]; simp
 | false => rfl
theorem stateOf_eq (l : List Aid) (n : Int) (h : okA l) : zy l n = { found := hasN l n, aid := stA l n : state } := by
 have hl := h.2.2
 unfold zy stA
 rw [aidOf_eq' l n (by omega)]
 cases hasN l n <;> rfl
theorem stA_num (l : List Aid) (n : Int) : (stA l n).Number = bif hasN l n then n else 0 := by
 unfold stA
 cases h : hasN l n with
 | true => exact (hasN_lt h).2
 | false => rfl
theorem eq_st (l l' : List Aid) (n : Int) (hn : 1 ≤ n) (h : okA l) (h' : okA l') : zbd (zy l n) (zy l' n) = decide (stA l n = stA l' n) := by
 rw [stateOf_eq l n h, stateOf_eq l' n h']
 unfold zbd
 simp only [sameAid_eq, l12Same_dec]
 by_cases he : stA l n = stA l' n
 ·have e1 := congrArg Aid.Number he
  rw [stA_num, stA_num] at e1
  rw [decide_eq_true he, Bool.and_true]
  cases h1 : hasN l n with
  | true =>
   cases h2 : hasN l' n with
   | true => rfl
   | false => rw [h1, h2] at e1; simp at e1; omega
  | false =>
   cases h2 : hasN l' n with
   | true => rw [h1, h2] at e1; simp at e1; omega
   | false => rfl
 ·rw [decide_eq_false he, Bool.and_false]
theorem hasN_mem (l : List Aid) (n : Int) (h : l.Pairwise ltA) : hasN l n = true ↔ ∃ v ∈ l, v.Number = n := by
 constructor
 ·intro hn
  obtain ⟨h1, h2⟩ := hasN_lt hn
  refine ⟨_, ?_, h2⟩
  rw [List.getD_eq_getElem?_getD, List.getElem?_eq_getElem h1]
  exact List.getElem_mem h1
 ·rintro ⟨v, hv, e⟩
  have hf := find_eq l n h
  cases hn : hasN l n with
  | true => rfl
  | false =>
   rw [hn, cond_false] at hf
   rcases find_first l n with ⟨j, h1, h2, h3, h4⟩ | ⟨h1, h2⟩
   ·omega
   ·obtain ⟨j, hj, rfl⟩ := List.getElem_of_mem hv
    have := h1 j hj
    rw [List.getD_eq_getElem?_getD, List.getElem?_eq_getElem hj] at this
    exact absurd e this
theorem one_num {v : Aid} (h : zwb v = true) : 1 ≤ v.Number ∧ v.Number ≤ 9999 := by
 unfold zwb at h
 cases h1 : zh v.Number 1 9999 with
 | false => rw [h1] at h; simp at h
 | true =>
  unfold zh at h1
  simpa using h1
theorem numbers_eq (a b c : List Aid) (ha : okA a) (hb : okA b) (hc : okA c) : ze a b c = (upI 1 9999).filter (anyN [a, b, c]) := by
 obtain ⟨h1, h2⟩ := l23Numbers_spec a b c
 refine pw_ext h1 ((upI_pw _ _).filter _) fun x => ?_
 rw [h2, List.mem_filter, upI_mem]
 unfold anyN
 simp only [List.any_cons, List.any_nil, Bool.or_false, Bool.or_eq_true, hasN_mem a x ha.2.1, hasN_mem b x hb.2.1, hasN_mem c x hc.2.1]
 have hr : ∀ l, okA l → (∃ v ∈ l, v.Number = x) → 1 ≤ x ∧ x < 1 + ((9999 : Nat) : Int) := by
  rintro l hl ⟨v, hv, rfl⟩
  have := one_num (hl.1 v hv)
  omega
 constructor
 ·rintro (h | h | h)
  ·exact ⟨hr a ha h, .inl h⟩
  ·exact ⟨hr b hb h, .inr (.inl h)⟩
  ·exact ⟨hr c hc h, .inr (.inr h)⟩
 ·rintro ⟨_, h⟩; exact h
def merA (a b c : List Aid) (n : Int) : Aid := bif decide (stA a n = stA b n) then stA c n else stA b n
def bsA (a b c : List Aid) (n : Int) : Bool := ((!decide (stA a n = stA b n)) && (!decide (stA a n = stA c n))) && (!decide (stA b n = stA c n))
theorem loop_pick {ρ : Type} (l : List Int) (b : Nat → List Aid → Except ρ (List Aid)) (g : Int → Aid) (hb : ∀ i s, i < l.length → b i s = bif ((g (l.getD i default)).Number != 0) then .ok (s ++ [g (l.getD i default)]) else .ok s) :
  loopR b (l.length - 0) 0 ([] : List Aid) = .ok ((l.filter (fun n => (g n).Number != 0)).map g) :=
 loopR_filter l b (fun n => (g n).Number != 0) g hb
theorem merge_eq (a b c : List Aid) (ha : ∀ v ∈ a, aidL v) (hb : ∀ v ∈ b, aidL v) (hc : ∀ v ∈ c, aidL v) : zfb a b c = zw a b c := by
 unfold zfb zw znf
 rw [validAids_eq a ha, validAids_eq b hb, validAids_eq c hc]
 cases ka : zo a with
 | false => rfl
 | true =>
 cases kb : zo b with
 | false => rfl
 | true =>
 cases kc : zo c with
 | false => rfl
 | true =>
  simp only [Bool.not_true, Bool.or_false, Bool.and_true, cond_false]
  have oa := (okA_iff a).1 ka
  have ob := (okA_iff b).1 kb
  have oc := (okA_iff c).1 kc
  have la := oa.2.2
  have lb := ob.2.2
  have lc := oc.2.2
  have hl3 : ∀ l ∈ [a, b, c], l.length < 9223372036854775808 := by
   intro l hl
   simp only [List.mem_cons, List.not_mem_nil, or_false] at hl
   rcases hl with rfl | rfl | rfl <;> omega
  have hl2 : ∀ l ∈ [b, c], l.length < 9223372036854775808 := fun l hl => hl3 l (by simp only [List.mem_cons, List.not_mem_nil, or_false] at hl ⊢; exact .inr hl)
  have hn3 := numbersIn_eq [a, b, c] hl3
  have hn2 := numbersIn_eq [b, c] hl2
  have hs3 := numbers_eq a b c oa ob oc
  have hpos : ∀ (p : Int → Bool) (i : Nat), i < ((upI 1 9999).filter p).length → 1 ≤ ((upI 1 9999).filter p).getD i default := by
   intro p i hi
   have hm : ((upI 1 9999).filter p).getD i default ∈ (upI 1 9999).filter p := by
    rw [List.getD_eq_getElem?_getD, List.getElem?_eq_getElem hi]; exact List.getElem_mem hi
   exact ((upI_mem _ _ _).1 (List.mem_filter.1 hm).1).1
  have hcf : zwc a b c = zhc a b c := by
   unfold zwc zhc
   rw [loopR_filter (zf [a, b, c]) (zwc_b1 a b c) (bsA a b c) (fun x => x) (fun i s hi => by
    have h1 : 1 ≤ (zf [a, b, c]).getD i default := by rw [hn3] at hi ⊢; exact hpos _ i hi
    simp only [zwc_b1]
    generalize (zf [a, b, c]).getD i default = n at *
    rw [eq_st b c n h1 ob oc, eq_st b a n h1 ob oa, eq_st c a n h1 oc oa]
    unfold bsA
    have e1 : decide (stA b n = stA a n) = decide (stA a n = stA b n) := decide_eq_decide.2 eq_comm
    have e2 : decide (stA c n = stA a n) = decide (stA a n = stA c n) := decide_eq_decide.2 eq_comm
    rw [e1, e2]
    cases decide (stA a n = stA b n) <;> cases decide (stA a n = stA c n) <;> cases decide (stA b n = stA c n) <;> rfl)]
   rw [loopR_filter (ze a b c) (zhc_b1 a b c) (bsA a b c) (fun x => x) (fun i s hi => by
    simp only [zhc_b1]
    generalize (ze a b c).getD i default = n at *
    rw [l23State_eq a n oa, l23State_eq b n ob, l23State_eq c n oc]
    simp only [l12Same_dec]
    rfl)]
   rw [hn3, hs3]
  rw [hcf]
  cases decide (0 < ((zhc a b c).length : Int)) with
  | true => rfl
  | false =>
   simp only [cond_false]
   rw [loop_pick (zf [b, c]) (zfb_b1 a b c) (merA a b c) (fun i s hi => by
    have h1 : 1 ≤ (zf [b, c]).getD i default := by rw [hn2] at hi ⊢; exact hpos _ i hi
    simp only [zfb_b1]
    generalize (zf [b, c]).getD i default = n at *
    rw [eq_st b a n h1 ob oa, stateOf_eq b n ob, stateOf_eq c n oc]
    have e1 : decide (stA b n = stA a n) = decide (stA a n = stA b n) := decide_eq_decide.2 eq_comm
    have hf : ∀ l, hasN l n = ((stA l n).Number != 0) := fun l => by
     rw [stA_num]
     cases hasN l n with
     | true => simp; omega
     | false => rfl
    rw [e1]
    simp only [copyAid_id, hf]
    unfold merA
    cases decide (stA a n = stA b n) <;> rfl)]
   rw [loop_pick (ze a b c) (zw_b1 a b c) (merA a b c) (fun i s hi => by
    simp only [zw_b1]
    generalize (ze a b c).getD i default = n at *
    rw [l23State_eq a n oa, l23State_eq b n ob, l23State_eq c n oc]
    simp only [l12Same_dec, ownAid_id]
    unfold merA
    cases decide (stA a n = stA b n) <;> rfl)]
   have hz : ∀ n, anyN [b, c] n = false → ((merA a b c n).Number != 0) = false := by
    intro n hn
    unfold anyN at hn
    simp only [List.any_cons, List.any_nil, Bool.or_false, Bool.or_eq_false_iff] at hn
    have h1 : (stA b n).Number = 0 := by rw [stA_num, hn.1]; rfl
    have h2 : (stA c n).Number = 0 := by rw [stA_num, hn.2]; rfl
    unfold merA
    cases decide (stA a n = stA b n) with
    | true => simp [h2]
    | false => simp [h1]
   have hz3 : ∀ n, anyN [a, b, c] n = false → ((merA a b c n).Number != 0) = false := by
    intro n hn
    refine hz n ?_
    unfold anyN at hn ⊢
    simp only [List.any_cons, List.any_nil, Bool.or_false, Bool.or_eq_false_iff] at hn ⊢
    exact hn.2
   have hdrop : ∀ (q : Int → Bool) (p : Int → Bool), (∀ n, p n = false → q n = false) → ((upI 1 9999).filter p).filter q = (upI 1 9999).filter q := by
    intro q p h
    rw [List.filter_filter]
    refine List.filter_congr fun n _ => ?_
    cases hp : p n with
    | true => simp
    | false => simp [h n hp]
   rw [hn2, hs3, hdrop _ _ hz, hdrop _ _ hz3]
   dsimp only
   unfold zt
   have e9 : ∀ (k : Nat), (!(decide ((k : Int) ≤ 24))) = decide (24 < (k : Int)) := fun k => by
    by_cases h : (k : Int) ≤ 24
    ·rw [decide_eq_true h, decide_eq_false (by omega)]; rfl
    ·rw [decide_eq_false h, decide_eq_true (by omega)]; rfl
   rw [e9]
theorem merge_all (P : Aid → Prop) (a b c : List Aid) (hb : ∀ v ∈ b, P v) (hc : ∀ v ∈ c, P v) : (∀ v ∈ (zw a b c).1, P v) ∧ (zw a b c).1.length ≤ 24 := by
 unfold zw
 cases ka : zo a with
 | false => exact ⟨fun v hv => by simp at hv, by simp⟩
 | true =>
 cases kb : zo b with
 | false => exact ⟨fun v hv => by simp at hv, by simp⟩
 | true =>
 cases kc : zo c with
 | false => exact ⟨fun v hv => by simp at hv, by simp⟩
 | true =>
  have oa := (okA_iff a).1 ka
  have ob := (okA_iff b).1 kb
  have oc := (okA_iff c).1 kc
  simp only [Bool.not_true, Bool.or_false, cond_false]
  cases decide (0 < ((zhc a b c).length : Int)) with
  | true => exact ⟨fun v hv => by simp at hv, by simp⟩
  | false =>
   simp only [cond_false]
   rw [loop_pick (ze a b c) (zw_b1 a b c) (merA a b c) (fun i s hi => by
    simp only [zw_b1]
    generalize (ze a b c).getD i default = n at *
    rw [l23State_eq a n oa, l23State_eq b n ob, l23State_eq c n oc]
    simp only [l12Same_dec, ownAid_id]
    unfold merA
    cases decide (stA a n = stA b n) <;> rfl)]
   dsimp only
   by_cases h : 24 < (((((ze a b c).filter (fun n => (merA a b c n).Number != 0)).map (merA a b c)).length : Nat) : Int)
   ·rw [decide_eq_true h]; exact ⟨fun v hv => by simp at hv, by simp⟩
   ·rw [decide_eq_false h]
    refine ⟨fun v hv => ?_, by dsimp only [cond_false]; omega⟩
    obtain ⟨n, hn, rfl⟩ := List.mem_map.1 hv
    have hn0 := (List.mem_filter.1 hn).2
    have hst : ∀ l, (∀ v ∈ l, P v) → ((stA l n).Number != 0) = true → P (stA l n) := by
     intro l hp h0
     rw [stA_num] at h0
     cases hh : hasN l n with
     | false => rw [hh] at h0; simp at h0
     | true =>
      unfold stA
      rw [hh]
      refine hp _ ?_
      rw [cond_true, List.getD_eq_getElem?_getD, List.getElem?_eq_getElem (hasN_lt hh).1]
      exact List.getElem_mem _
    unfold merA at hn0 ⊢
    cases hd : decide (stA a n = stA b n) with
    | true => rw [hd] at hn0; exact hst c hc hn0
    | false => rw [hd] at hn0; exact hst b hb hn0
theorem law_MergeAids (a0 : List Aid) (a1 : List Aid) (a2 : List Aid) (hl : a0.length < 9223372036854775808) (hv : ∀ v ∈ a0, bwAid v) (hl1 : a1.length < 9223372036854775808) (hv1 : ∀ v ∈ a1, bwAid v) (hl2 : a2.length < 9223372036854775808) (hv2 : ∀ v ∈ a2, bwAid v) : zrf a0 a1 a2 = true := by
 unfold zrf
 have f0 := zg_facts a0 1048576 (by omega) (by omega) hl hv
 by_cases c0 : zg a0 1048576 < 0
 ·rw [decide_eq_true c0]; rfl
 rw [decide_eq_false c0]
 have f1 := zg_facts a1 (zg a0 1048576) (by omega) (by omega) hl1 hv1
 by_cases c1 : zg a1 (zg a0 1048576) < 0
 ·rw [decide_eq_true c1]; rfl
 rw [decide_eq_false c1]
 have f2 := zg_facts a2 (zg a1 (zg a0 1048576)) (by omega) (by omega) hl2 hv2
 by_cases c2 : zg a2 (zg a1 (zg a0 1048576)) < 0
 ·rw [decide_eq_true c2]; rfl
 rw [decide_eq_false c2]
 simp only [cond_false]
 obtain ⟨g0, g1⟩ := f0.2.2 c0
 obtain ⟨k0, k1⟩ := f1.2.2 c1
 obtain ⟨m0, m1⟩ := f2.2.2 c2
 simp only [za_id, zr_dec]
 have hp0 : ∀ v ∈ a0, aidP v := fun v h => aidP_of (hv v h) (g1 v h)
 have hp1 : ∀ v ∈ a1, aidP v := fun v h => aidP_of (hv1 v h) (k1 v h)
 have hp2 : ∀ v ∈ a2, aidP v := fun v h => aidP_of (hv2 v h) (m1 v h)
 rw [merge_eq a0 a1 a2 (fun v h => (hp0 v h).1) (fun v h => (hp1 v h).1) (fun v h => (hp2 v h).1)]
 obtain ⟨e2, e3⟩ := merge_all aidP a0 a1 a2 hp1 hp2
 have hm := heldAidS_mark (zw a0 a1 a2).1 1 (fun v h => (e2 v h).2) (by omega) (by omega) (by omega)
 have hk := markAidS_rng a0 1 (fun v h => (hp0 v h).2) g0 (by omega) (by omega)
 have hk2 := markAidS_rng a1 (zq a0 1).1 (fun v h => (hp1 v h).2) k0 (by omega) (by omega)
 have hk3 := markAidS_rng a2 (zq a1 (zq a0 1).1).1 (fun v h => (hp2 v h).2) m0 (by omega) (by omega)
 rw [hm.1, decide_eq_false hm.2, decide_eq_false (show ¬ (zq a2 (zq a1 (zq a0 1).1).1).1 < 0 by omega)]
 simp
end Go.Ab
