/- A part of a proof: walks of functions and lemmas of our own. No conditions. -/
import Derived.Test.YtaneiddiakjgdaaGreatDoorUAl
import Derived.Test.YtaneiddiakjgdaaGreatDoorUAi
import Derived.Test.YtaneiddiakjgdaaGreatDoorUAp
import Derived.Test.YtaneiddiakjgdaaGreatDoorUAt
import Derived.Test.YtaneiddiakjgdaaGreatDoorUAu
import Derived.Test.YtaneiddiakjgdaaGreatDoorUAx
import Derived.Test.YtaneiddiakjgdaaGreatDoorUAz
import Derived.Test.YtaneiddiakjgdaaGreatDoorUAy
import Derived.Test.YtaneiddiakjgdaaGreatDoorUAr
import Derived.Test.YtaneiddiakjgdaaGreatDoorUAw
import Derived.Test.YtaneiddiakjgdaaGreatDoorUBa
import Derived.Test.YtaneiddiakjgdaaGreatDoorUAq
import Derived.Test.YtaneiddiakjgdaaGreatDoorUAs
import Derived.Test.YtaneiddiakjgdaaGreatDoorUAn
import Derived.Test.YtaneiddiakjgdaaGreatDoorUBb
set_option linter.unusedSectionVars false
set_option linter.unusedVariables false
set_option linter.unusedSimpArgs false
set_option maxHeartbeats 1000000
namespace Go.Ab
open Go Go.Proofs
theorem l00Same_eq (a b : List Int) : znd a b = znc a b := rfl
theorem sameSectors_eq (a b : List Sector) : zmd a b = zoc a b := rfl
theorem sect_step (a b : Sector) : (a.From == b.From && (a.To == b.To && a.Color == b.Color)) = decide (a = b) := by
 cases a; cases b
 apply Bool.eq_iff_iff.2
 simp [Sector.mk.injEq]
theorem same_Sector_dec (a b : List Sector) : zoc a b = decide (a = b) := by
 unfold zoc
 by_cases hl : a.length = b.length
 ·have h1 : ((a.length : Int) != (b.length : Int)) = false := by simp [hl]
  rw [h1, cond_false, loopR_any (b := zoc_b1 a b) (fun j => !decide (a.getD j default = b.getD j default)) false (fun j u _ _ => by simp only [zoc_b1, sect_step])]
  simp only [Nat.sub_zero, Nat.zero_add]
  rw [any_ne a b hl]
  by_cases h : a = b <;> simp [h]
 ·have h1 : ((a.length : Int) != (b.length : Int)) = true := by simp; omega
  have h2 : ¬ a = b := fun e => hl (by rw [e])
  rw [h1, cond_true, decide_eq_false h2]
end Go.Ab





namespace Go.Ab
open Go Go.Proofs
def ltA (a b : Aid) : Prop := a.Number < b.Number
theorem ltA_trans (a b c : Aid) (h : ltA a b) (k : ltA b c) : ltA a c := by unfold ltA at *; omega
def okA (l : List Aid) : Prop := (∀ v ∈ l, zwb v = true) ∧ l.Pairwise ltA ∧ l.length ≤ 24
theorem okA_iff (l : List Aid) : zo l = true ↔ okA l := by
 unfold zo
 refine Iff.trans (loopR_allF (b := zo_b1 l) (fun j => (!(zwb (l.getD j default))) || (decide (0 < (j : Int)) && decide (((l.getD j default).Number) ≤ ((l.getD ((IntKind.wrap .i64 ((j : Int) - 1)).toNat) default).Number)))) l.length _ (fun j u _ => rfl)) ?_
 unfold okA
 rw [pw_adj ltA ltA_trans l, decide_eq_true_eq]
 have e : ∀ j : Nat, 0 < j → j < l.length → l.length < 9223372036854775808 → (IntKind.wrap .i64 ((j : Int) - 1)).toNat = j - 1 := by
  intro j h0 h1 h2
  rw [IntKind.wrap_i64]; omega
 constructor
 ·rintro ⟨h1, h2⟩
  have h2' : l.length ≤ 24 := by omega
  refine ⟨fun v hv => ?_, fun j hj => ?_, h2'⟩
  ·obtain ⟨j, hj, rfl⟩ := List.getElem_of_mem hv
   have := h1 j hj
   rw [Bool.or_eq_false_iff] at this
   have h3 := this.1
   rw [List.getD_eq_getElem?_getD, List.getElem?_eq_getElem hj] at h3
   simpa using h3
  ·have := h1 (j + 1) hj
   rw [Bool.or_eq_false_iff, e (j + 1) (by omega) hj (by omega)] at this
   have h3 := this.2
   simp only [Nat.add_sub_cancel] at h3
   unfold ltA
   simp only [Bool.and_eq_false_iff, decide_eq_false_iff_not] at h3
   rcases h3 with h3 | h3 <;> omega
 ·rintro ⟨h1, h2, h3⟩
  refine ⟨fun j hj => ?_, by omega⟩
  rw [Bool.or_eq_false_iff]
  constructor
  ·have : l.getD j default ∈ l := by
    rw [List.getD_eq_getElem?_getD, List.getElem?_eq_getElem hj]
    exact List.getElem_mem hj
   rw [h1 _ this]; rfl
  ·cases j with
   | zero => simp
   | succ j =>
    rw [e (j + 1) (by omega) hj (by omega)]
    have := h2 j hj
    unfold ltA at this
    simp only [Nat.add_sub_cancel, Bool.and_eq_false_iff, decide_eq_false_iff_not]
    right; omega
theorem upto_lt (l : List Aid) (n : Int) : ∀ j, j < upto l n → (l.getD j default).Number < n := by
 unfold upto
 induction l with
 | nil => intro j hj; simp at hj
 | cons x l ih =>
  intro j hj
  rw [List.takeWhile_cons] at hj
  by_cases h : x.Number < n
  ·rw [if_pos (decide_eq_true h)] at hj
   cases j with
   | zero => exact h
   | succ j => exact ih j (by simpa using hj)
  ·rw [if_neg (by simpa using h)] at hj
   simp at hj
theorem upto_at (l : List Aid) (n : Int) : upto l n < l.length → ¬ (l.getD (upto l n) default).Number < n := by
 unfold upto
 induction l with
 | nil => intro h; simp at h
 | cons x l ih =>
  intro hj
  rw [List.takeWhile_cons] at hj ⊢
  by_cases h : x.Number < n
  ·rw [if_pos (decide_eq_true h)] at hj ⊢
   exact ih (by simpa using hj)
  ·rw [if_neg (by simpa using h)]
   exact h
theorem upto_eq (l : List Aid) (n : Int) (j : Nat) (hj : j ≤ l.length) (h1 : ∀ q, q < j → (l.getD q default).Number < n) (h2 : j < l.length → ¬ (l.getD j default).Number < n) : upto l n = j := by
 have hu := upto_le l n
 rcases Nat.lt_trichotomy (upto l n) j with h | h | h
 ·exact absurd (h1 _ h) (upto_at l n (by omega))
 ·exact h
 ·exact absurd (upto_lt l n j h) (h2 (by omega))
theorem pw_getD {l : List Aid} (h : l.Pairwise ltA) {i j : Nat} (hij : i < j) (hj : j < l.length) : (l.getD i default).Number < (l.getD j default).Number := by
 have := List.pairwise_iff_getElem.1 h i j (by omega) hj hij
 rw [List.getD_eq_getElem?_getD, List.getD_eq_getElem?_getD, List.getElem?_eq_getElem hj, List.getElem?_eq_getElem (show i < l.length by omega)]
 exact this
def hasN (l : List Aid) (n : Int) : Bool := decide (upto l n < l.length) && ((l.getD (upto l n) default).Number == n)
theorem find_eq (l : List Aid) (n : Int) (h : l.Pairwise ltA) : zjb l n = bif hasN l n then (upto l n : Int) else -1 := by
 rcases find_first l n with ⟨j, h1, h2, h3, h4⟩ | ⟨h1, h2⟩
 ·have e : upto l n = j := upto_eq l n j (by omega) (fun q hq => by rw [← h2]; exact pw_getD h hq h1) (fun _ => by omega)
  have : hasN l n = true := by
   unfold hasN
   rw [e, h2]
   simp [h1]
  rw [this, h4, e]; rfl
 ·have : hasN l n = false := by
   unfold hasN
   cases hd : decide (upto l n < l.length) with
   | false => rfl
   | true =>
    have := h1 _ (of_decide_eq_true hd)
    simpa using this
  rw [this, h2]; rfl
theorem hasN_lt {l : List Aid} {n : Int} (h : hasN l n = true) : upto l n < l.length ∧ (l.getD (upto l n) default).Number = n := by
 unfold hasN at h
 simpa using h
theorem aidOf_eq' (l : List Aid) (n : Int) (hl : l.length < 9223372036854775808) : zj l n = ((upto l n : Int), hasN l n) := aidOf_eq l n hl
theorem sameChar_eq (a b : Character) : zgd a b = zne a b := by
 unfold zgd zne
 rfl
theorem sameAid_eq (a b : Aid) : zte a b = ztc a b := by
 unfold zte ztc
 rw [sameChar_eq]
 rfl
end Go.Ab

namespace Go.Ab
open Go Go.Proofs
def upI : Int → Nat → List Int
 | _, 0 => []
 | n, m + 1 => n :: upI (n + 1) m
theorem upI_mem : ∀ (m : Nat) (n x : Int), x ∈ upI n m ↔ n ≤ x ∧ x < n + m
 | 0, n, x => by simp only [upI, List.not_mem_nil, false_iff]; omega
 | m + 1, n, x => by
  simp only [upI, List.mem_cons, upI_mem m]
  omega
theorem upI_pw : ∀ (m : Nat) (n : Int), (upI n m).Pairwise (· < ·)
 | 0, _ => List.Pairwise.nil
 | m + 1, n => by
  simp only [upI, List.pairwise_cons]
  exact ⟨fun x hx => by have := (upI_mem m _ x).1 hx; omega, upI_pw m (n + 1)⟩
theorem pw_ext : ∀ {a b : List Int}, a.Pairwise (· < ·) → b.Pairwise (· < ·) → (∀ x, x ∈ a ↔ x ∈ b) → a = b
 | [], [], _, _, _ => rfl
 | [], y :: b, _, _, h => by have := (h y).2 (by simp); simp at this
 | x :: a, [], _, _, h => by have := (h x).1 (by simp); simp at this
 | x :: a, y :: b, ha, hb, h => by
  rw [List.pairwise_cons] at ha hb
  have hxy : x = y := by
   have h1 := (h x).1 (by simp)
   have h2 := (h y).2 (by simp)
   rcases List.mem_cons.1 h1 with e | h1
   ·exact e
   ·rcases List.mem_cons.1 h2 with e | h2
    ·exact e.symm
    ·have := ha.1 y h2; have := hb.1 x h1; omega
  subst hxy
  congr 1
  refine pw_ext ha.2 hb.2 fun z => ?_
  have hz := h z
  simp only [List.mem_cons] at hz
  constructor
  ·intro hm
   rcases hz.1 (.inr hm) with e | h3
   ·subst e; have := ha.1 z hm; omega
   ·exact h3
  ·intro hm
   rcases hz.2 (.inr hm) with e | h3
   ·subst e; have := hb.1 z hm; omega
   ·exact h3
theorem l00Put_eq (l : List Int) (n : Int) (h : l.Pairwise (· < ·)) : zgb l n = l.filter (fun x => decide (x < n)) ++ [n] ++ l.filter (fun x => decide (n < x)) := by
 unfold zgb
 obtain ⟨t, h1, h2⟩ := loopR_total (b := zgb_b1 l n) (fun j s => (s.1 = false → s.2 = l.take j ∧ ∀ x ∈ l.take j, x < n) ∧ (s.1 = true → (∃ x ∈ l.take j, n ≤ x) ∧ s.2 = (l.take j).filter (fun x => decide (x < n)) ++ [n] ++ (l.take j).filter (fun x => decide (n < x)))) (k := l.length - 0) (i := 0) (s := (false, [])) (by simp) (by
  intro j u _ hj hI
  have hj : j < l.length := by omega
  obtain ⟨d, s⟩ := u
  rw [take_succ_getD l j hj]
  have hmem : l.getD j default = l[j]'hj := by rw [List.getD_eq_getElem?_getD, List.getElem?_eq_getElem hj]; rfl
  have hlt : ∀ x ∈ l.take j, x < l.getD j default := by
   intro x hx
   obtain ⟨q, hq, rfl⟩ := List.getElem_of_mem hx
   simp only [List.length_take] at hq
   rw [hmem, List.getElem_take]
   exact List.pairwise_iff_getElem.1 h q j (by omega) hj (by omega)
  simp only [zgb_b1]
  generalize l.getD j default = y at *
  cases d with
  | true =>
   refine ⟨_, rfl, fun h => by simp at h, fun _ => ?_⟩
   obtain ⟨⟨x, hx, hnx⟩, hs⟩ := hI.2 rfl
   refine ⟨⟨x, by simp [hx], hnx⟩, ?_⟩
   have hy := hlt x hx
   simp only at hs ⊢
   rw [hs, List.filter_append, List.filter_append]
   have e1 : [y].filter (fun x => decide (x < n)) = [] := by simp; omega
   have e2 : [y].filter (fun x => decide (n < x)) = [y] := by simp; omega
   rw [e1, e2]; simp
  | false =>
   obtain ⟨hs, ha⟩ := hI.1 rfl
   simp only at hs
   subst hs
   have f1 : (l.take j).filter (fun x => decide (x < n)) = l.take j := List.filter_eq_self.2 (fun x hx => by simpa using ha x hx)
   have f2 : (l.take j).filter (fun x => decide (n < x)) = [] := List.filter_eq_nil_iff.2 (fun x hx => by have := ha x hx; simp; omega)
   by_cases hny : n ≤ y
   ·rw [decide_eq_true hny]
    simp only [Bool.not_false, Bool.true_and, cond_true]
    by_cases hn2 : n < y
    ·rw [decide_eq_true hn2]
     refine ⟨_, rfl, fun h => by simp at h, fun _ => ⟨⟨y, by simp, hny⟩, ?_⟩⟩
     rw [List.filter_append, List.filter_append, f1, f2]
     have e1 : [y].filter (fun x => decide (x < n)) = [] := by simp; omega
     have e2 : [y].filter (fun x => decide (n < x)) = [y] := by simp; omega
     rw [e1, e2]; simp
    ·rw [decide_eq_false hn2]
     refine ⟨_, rfl, fun h => by simp at h, fun _ => ⟨⟨y, by simp, hny⟩, ?_⟩⟩
     have : y = n := by omega
     subst this
     rw [List.filter_append, List.filter_append, f1, f2]
     have e1 : [y].filter (fun x => decide (x < y)) = [] := by simp
     have e2 : [y].filter (fun x => decide (y < x)) = [] := by simp
     rw [e1, e2]; simp
   ·rw [decide_eq_false hny]
    refine ⟨_, rfl, fun _ => ⟨rfl, fun x hx => ?_⟩, fun h => by simp at h⟩
    rcases List.mem_append.1 hx with hx | hx
    ·exact ha x hx
    ·have : x = y := by simpa using hx
     omega)
 rw [h1]
 obtain ⟨d, s⟩ := t
 have e : l.take (0 + (l.length - 0)) = l := by simp
 rw [e] at h2
 cases d with
 | true =>
  have := (h2.2 rfl).2
  simpa using this
 | false =>
  obtain ⟨hs, ha⟩ := h2.1 rfl
  simp only at hs
  subst hs
  have f1 : s.filter (fun x => decide (x < n)) = s := List.filter_eq_self.2 (fun x hx => by simpa using ha x hx)
  have f2 : s.filter (fun x => decide (n < x)) = [] := List.filter_eq_nil_iff.2 (fun x hx => by have := ha x hx; simp; omega)
  rw [f1, f2]; simp
theorem l00Put_pw (l : List Int) (n : Int) (h : l.Pairwise (· < ·)) : (zgb l n).Pairwise (· < ·) ∧ ∀ x, x ∈ zgb l n ↔ x ∈ l ∨ x = n := by
 rw [l00Put_eq l n h]
 constructor
 ·rw [List.append_assoc, List.pairwise_append]
  refine ⟨h.filter _, ?_, fun x hx y hy => ?_⟩
  ·rw [List.singleton_append, List.pairwise_cons]
   exact ⟨fun y hy => by simpa using (List.mem_filter.1 hy).2, h.filter _⟩
  ·have h1 : x < n := by simpa using (List.mem_filter.1 hx).2
   rw [List.singleton_append, List.mem_cons] at hy
   rcases hy with rfl | hy
   ·exact h1
   ·have : n < y := by simpa using (List.mem_filter.1 hy).2
    omega
 ·intro x
  simp only [List.mem_append, List.mem_filter, List.mem_singleton, decide_eq_true_eq]
  constructor
  ·rintro ((h | h) | h)
   ·exact .inl h.1
   ·exact .inr h
   ·exact .inl h.1
  ·rintro (h | h)
   ·rcases Int.lt_trichotomy x n with h2 | h2 | h2
    ·exact .inl (.inl ⟨h, h2⟩)
    ·exact .inl (.inr h2)
    ·exact .inr ⟨h, h2⟩
   ·exact .inl (.inr h)
theorem put_loop (l : List Aid) (b : Nat → List Int → Except (List Int) (List Int)) (hb : ∀ i s, b i s = .ok (zgb s ((l.getD i default).Number))) (s0 : List Int) (h0 : s0.Pairwise (· < ·)) :
  ∃ t, loopR b (l.length - 0) 0 s0 = .ok t ∧ t.Pairwise (· < ·) ∧ ∀ x, x ∈ t ↔ x ∈ s0 ∨ ∃ v ∈ l, v.Number = x := by
 obtain ⟨t, h1, h2, h3⟩ := loopR_total (b := b) (fun j s => s.Pairwise (· < ·) ∧ ∀ x, x ∈ s ↔ x ∈ s0 ∨ ∃ v ∈ l.take j, v.Number = x) (k := l.length - 0) (i := 0) (s := s0) ⟨h0, fun x => by simp⟩ (by
  intro j u _ hj hI
  have hj : j < l.length := by omega
  refine ⟨_, hb j u, ?_⟩
  obtain ⟨p1, p2⟩ := l00Put_pw u ((l.getD j default).Number) hI.1
  refine ⟨p1, fun x => ?_⟩
  rw [p2, hI.2, take_succ_getD l j hj]
  simp only [List.mem_append, List.mem_singleton]
  constructor
  ·rintro ((h | ⟨v, hv, e⟩) | h)
   ·exact .inl h
   ·exact .inr ⟨v, .inl hv, e⟩
   ·exact .inr ⟨_, .inr rfl, h.symm⟩
  ·rintro (h | ⟨v, hv | hv, e⟩)
   ·exact .inl (.inl h)
   ·exact .inl (.inr ⟨v, hv, e⟩)
   ·subst hv; exact .inr e.symm)
 refine ⟨t, h1, h2, fun x => ?_⟩
 rw [h3 x]
 simp
theorem l23Numbers_spec (a b c : List Aid) : (ze a b c).Pairwise (· < ·) ∧ ∀ x, x ∈ ze a b c ↔ (∃ v ∈ a, v.Number = x) ∨ (∃ v ∈ b, v.Number = x) ∨ (∃ v ∈ c, v.Number = x) := by
 unfold ze
 obtain ⟨t1, e1, p1, m1⟩ := put_loop a (ze_b1 a b c) (fun i s => rfl) [] List.Pairwise.nil
 rw [e1]
 dsimp only
 obtain ⟨t2, e2, p2, m2⟩ := put_loop b (ze_b2 a b c t1) (fun i s => rfl) t1 p1
 rw [e2]
 dsimp only
 obtain ⟨t3, e3, p3, m3⟩ := put_loop c (ze_b3 a b c t1 t2) (fun i s => rfl) t2 p2
 rw [e3]
 refine ⟨p3, fun x => ?_⟩
 rw [m3, m2, m1]
 simp only [List.not_mem_nil, false_or, or_assoc]
def anyN (qs : List (List Aid)) (n : Int) : Bool := qs.any (fun l => hasN l n)
theorem numbersIn_step (qs : List (List Aid)) (hl : ∀ l ∈ qs, l.length < 9223372036854775808) (n : Int) (out : List Int) (hn : 1 ≤ n) (h9 : n ≤ 10000) :
  zf_b1 qs (n, out) = bif decide (n ≤ 9999) then .ok (n + 1, out ++ (bif anyN qs n then [n] else [])) else .error (.inr (n, out)) := by
 unfold zf_b1
 have hw : IntKind.wrap .i64 (n + 1) = n + 1 := by rw [IntKind.wrap_i64]; omega
 simp only [hw]
 by_cases h : n ≤ 9999
 ·rw [decide_eq_true h]
  simp only [cond_true]
  rw [loopR_foldE qs (zf_b2 qs (n, out)) (fun l s => bif hasN l n then .error (.inr (s ++ [n])) else .ok s) out (fun i s hi => by
   have hm : qs.getD i default ∈ qs := by rw [List.getD_eq_getElem?_getD, List.getElem?_eq_getElem hi]; exact List.getElem_mem hi
   simp only [zf_b2, aidOf_eq' _ n (hl _ hm)])]
  have : ∀ (r : List (List Aid)), foldE (ρ := Sum (List Int) (List Int)) (fun l s => bif hasN l n then .error (.inr (s ++ [n])) else .ok s) r out = bif r.any (fun l => hasN l n) then .error (.inr (out ++ [n])) else .ok out := by
   intro r
   induction r with
   | nil => rfl
   | cons x r ih =>
    simp only [foldE, List.any_cons]
    cases hasN x n with
    | true => rfl
    | false => simp only [cond_false, Bool.false_or]; exact ih
  rw [this]
  unfold anyN
  cases qs.any (fun l => hasN l n) with
  | true => rfl
  | false => simp
 ·rw [decide_eq_false h]; rfl
theorem numbersIn_run (qs : List (List Aid)) (hl : ∀ l ∈ qs, l.length < 9223372036854775808) : ∀ (m fuel : Nat) (n : Int) (out : List Int), 1 ≤ n → n + m = 10000 → m < fuel →
  loopW (zf_b1 qs) fuel (n, out) = .error (.inr (10000, out ++ (upI n m).filter (anyN qs)))
 | _, 0, _, _, _, _, h => absurd h (Nat.not_lt_zero _)
 | 0, fuel + 1, n, out, h1, h2, _ => by
  simp only [loopW]
  rw [numbersIn_step qs hl n out h1 (by omega), decide_eq_false (by omega)]
  have : n = 10000 := by omega
  subst this
  simp [upI]
 | m + 1, fuel + 1, n, out, h1, h2, h3 => by
  simp only [loopW]
  rw [numbersIn_step qs hl n out h1 (by omega), decide_eq_true (by omega)]
  simp only [cond_true]
  rw [numbersIn_run qs hl m fuel (n + 1) _ (by omega) (by omega) (by omega)]
  simp only [upI, List.filter_cons]
  cases anyN qs n <;> simp
theorem numbersIn_eq (qs : List (List Aid)) (hl : ∀ l ∈ qs, l.length < 9223372036854775808) : zf qs = (upI 1 9999).filter (anyN qs) := by
 unfold zf
 rw [numbersIn_run qs hl 9999 _ 1 [] (by omega) (by omega) (by decide)]
 simp
end Go.Ab

namespace Go.Ab
open Go Go.Proofs
def aidP (v : Aid) : Prop := aidL v ∧ aidB v
theorem aidP_of {v : Aid} (h : bwAid v) (h2 : smAid v) : aidP v := ⟨⟨h.2.2.1.2.2, by have := h2.2.2.2.1; omega⟩, ⟨h2.2.2.1.1, h2.2.2.2.1⟩⟩
end Go.Ab

namespace Go.Ab
open Go Go.Proofs
def zw_b1 (a0 : (List Aid)) (a1 : (List Aid)) (a2 : (List Aid)) (i1 : Nat) (s1 : List Aid) : Except (((List Aid) × Int)) (List Aid) :=
 (bif (ztc (zhb a0 ((ze a0 a1 a2).getD i1 default)) (zhb a1 ((ze a0 a1 a2).getD i1 default))) then (bif (((zhb a2 ((ze a0 a1 a2).getD i1 default)).Number) != 0) then .ok (s1 ++ [zgc (zhb a2 ((ze a0 a1 a2).getD i1 default))]) else .ok s1) else (bif (((zhb a1 ((ze a0 a1 a2).getD i1 default)).Number) != 0) then .ok (s1 ++ [zgc (zhb a1 ((ze a0 a1 a2).getD i1 default))]) else .ok s1))
def zw (a0 : (List Aid)) (a1 : (List Aid)) (a2 : (List Aid)) : ((List Aid) × Int) :=
 (bif (((!(zo a0)) || (!(zo a1))) || (!(zo a2))) then ([], 1) else (bif decide (0 < ((zhc a0 a1 a2).length : Int)) then ([], 6) else (match loopR (zw_b1 a0 a1 a2) (((ze a0 a1 a2).length) - 0) 0 ([] : List Aid) with | .error e => e | .ok s1 => (bif decide (24 < (s1.length : Int)) then ([], 5) else (s1, 0)))))
namespace N38
theorem DD : DOk Tryz.prog (Go.Ab.DD [(102, dP D_zhc), (103, dP D_ze), (104, dP D_zhb), (105, dP D_ztc), (106, dP D_zgc), (77, dP D_zo)]) := DD_cons D_zhc_ok.e <| DD_cons D_ze_ok.e <| DD_cons D_zhb_ok.e <| DD_cons D_ztc_ok.e <| DD_cons D_zgc_ok.e <| DD_cons D_zo_ok.e <| DD_nil _
theorem dn : type_of% (And.intro @D_zhc.eq_1 <| And.intro @D_ze.eq_1 <| And.intro @D_zhb.eq_1 <| And.intro @D_ztc.eq_1 <| And.intro @D_zgc.eq_1 <| @D_zo.eq_1) := by and_intros <;> intros <;> rfl
theorem gr {p : Prop} (h : p := by (grind [l12Ok_len]); first | done | fail) : p := h
theorem o1 {p : Prop} (h : p := by (first | (have h9 := hvl (by assumption); omega) | (exact st_bd _ _ (by assumption))); first | done | fail) : p := h
theorem o2 {p : Prop} (h : p := by (first | (and_intros <;> first | rfl | decide | (rw [IntKind.wrap_i64]; omega) | (simp only [List.length_append, List.length_singleton]; (first | done | fail)) | (intro j hj; by_cases hji : j < s1.length; (focus (simp only [app_lt hji, blt_t hji, cond_true]; first | (first | done | fail) | rfl | (and_intros <;> rfl))); (simp only [app_eq hji hj, blt_f hji, cond_false]; first | (first | done | fail) | rfl | (and_intros <;> rfl))))); first | done | fail) : p := h
set_option maxHeartbeats 2000000 in
set_option maxRecDepth 20000 in
theorem den (a0 : (List Aid)) (a1 : (List Aid)) (a2 : (List Aid)) (hb0 : a0.length < 1099511627776) (hb1 : ∀ v ∈ a0, bdAid v) (hb2 : a1.length < 1099511627776) (hb3 : ∀ v ∈ a1, bdAid v) (hb4 : a2.length < 1099511627776) (hb5 : ∀ v ∈ a2, bdAid v) : Den Tryz.prog 38 [encL 16 eAid a0, encL 16 eAid a1, encL 16 eAid a2] (.tup [ownL 63 16 eAidO ((zw a0 a1 a2).1), .int .i64 ((zw a0 a1 a2).2)]) := by
 generalize hR : zw a0 a1 a2 = r
 unfold zw at hR
 refine di Tryz.func38 Tryz.ntmps38 Tryz.results38 ?_
 intro c hL hc hk
 obtain ⟨hL0, hL1, hL2, _⟩ := hL
 have hw0 : a0.length < 9223372036854775808 := Nat.lt_succ_of_le (lens_encL hL0).1
 have hw1 : ∀ v ∈ a0, bwAid v := fun v hv => Aid_lens v ((lens_encL hL0).2 v hv)
 have hw2 : a1.length < 9223372036854775808 := Nat.lt_succ_of_le (lens_encL hL1).1
 have hw3 : ∀ v ∈ a1, bwAid v := fun v hv => Aid_lens v ((lens_encL hL1).2 v hv)
 have hw4 : a2.length < 9223372036854775808 := Nat.lt_succ_of_le (lens_encL hL2).1
 have hw5 : ∀ v ∈ a2, bwAid v := fun v hv => Aid_lens v ((lens_encL hL2).2 v hv)
 clear hL0 hL1 hL2
 simp only [pars, Nat.zero_add]
 have hnl : (ze a0 a1 a2).length ≤ a0.length + a1.length + a2.length := l23Num_len a0 a1 a2
 have hvl : (((!(zo a0)) || (!(zo a1))) || (!(zo a2))) = false → a0.length ≤ 24 ∧ a1.length ≤ 24 ∧ a2.length ≤ 24 := fun h => by simp only [Bool.or_eq_false_iff, Bool.not_eq_false'] at h; exact ⟨l12Ok_len h.1.1, l12Ok_len h.1.2, l12Ok_len h.2⟩
 iterate 2 refine rS ?_
 refine AWP.cond rfl (fun hb => ?_) (fun hb => ?_)
 ·replace hR := ct hR
  refine rS ?_
  refine AWP.ret ?_
  subst hR
  exact es
 ·replace hR := cf hR
  refine rS ?_
  refine AWP.cond rfl (fun hb => ?_) (fun hb => ?_)
  ·replace hR := ct hR
   refine rS ?_
   refine AWP.ret ?_
   subst hR
   exact es
  ·replace hR := cf hR
   iterate 3 refine rS ?_
   refine AWP.block ?_
   generalize hz1 : loopR (zw_b1 a0 a1 a2) (((ze a0 a1 a2).length) - 0) 0 ([] : List Aid) = z1 at hR
   refine AWP.range (zw_b1 a0 a1 a2) (fun i1 s1 => ⟨[(0, encL 16 eAid a0), (1, encL 16 eAid a1), (2, encL 16 eAid a2), (8, .ref 0 1 0 ((ze a0 a1 a2).length)), (9, .ref 1 16 0 s1.length), (10, .int .i64 (i1 : Int))], [.arr 2 1 (ze a0 a1 a2).length (fun j => eIi64 ((ze a0 a1 a2).getD j default)), .arr 63 16 s1.length (fun j => eAidO (s1.getD j default))]⟩) (fun i1 s1 => s1.length ≤ ([] : List Aid).length + 1 * i1 ∧ s1.length ≤ i1) (((ze a0 a1 a2).length)) 0 ([] : List Aid) [1, 2] hz1 ot wt sm ?_
   clear hz1
   intro i1 s1 hi1 hW1 hz1
   refine rS ?_
   refine AWP.cond rfl (fun hb => ?_) (fun hb => ?_)
   ·have hlt1 : i1 < ((ze a0 a1 a2).length) := ot
    rw [loopR_lt hlt1] at hz1; simp only [zw_b1] at hz1
    iterate 3 refine rS ?_
    refine AWP.cond rfl (fun hb => ?_) (fun hb => ?_)
    ·simp only [hb, cond_true] at hz1
     iterate 2 refine rS ?_
     refine AWP.cond rfl (fun hb => ?_) (fun hb => ?_)
     ·simp only [hb, cond_true] at hz1
      iterate 2 refine rS ?_
      exact ⟨_, [0, 7], hlt1, wt, hz1, sm⟩
     ·simp only [hb, cond_false] at hz1
      refine rS ?_
      exact ⟨_, [0, 1], hlt1, wt, hz1, sm⟩
    ·simp only [hb, cond_false] at hz1
     refine rS ?_
     refine AWP.cond rfl (fun hb => ?_) (fun hb => ?_)
     ·simp only [hb, cond_true] at hz1
      iterate 2 refine rS ?_
      exact ⟨_, [0, 7], hlt1, wt, hz1, sm⟩
     ·simp only [hb, cond_false] at hz1
      refine rS ?_
      exact ⟨_, [0, 1], hlt1, wt, hz1, sm⟩
   ·obtain rfl : i1 = ((ze a0 a1 a2).length) := ot
    rw [loopR_ge (Nat.le_refl _)] at hz1; subst hz1; dsimp only at hR
    refine AWP.exit ?_; refine exitTo_here ?_
    refine rS ?_
    refine AWP.cond rfl (fun hb => ?_) (fun hb => ?_)
    ·replace hR := ct hR
     refine rS ?_
     refine AWP.ret ?_
     subst hR
     exact es
    ·replace hR := cf hR
     refine rS ?_
     refine AWP.ret ?_
     subst hR
     exact es
end N38
def D_zw : DF
 | [x0, x1, x2] => some (.tup [ownL 63 16 eAidO ((zw (rdL dAid x0) (rdL dAid x1) (rdL dAid x2)).1), .int .i64 ((zw (rdL dAid x0) (rdL dAid x1) (rdL dAid x2)).2)], false, [wL 16 eAid dAid x0, wL 16 eAid dAid x1, wL 16 eAid dAid x2, (rdL dAid x0).length < 1099511627776, ∀ v ∈ (rdL dAid x0), bdAid v, (rdL dAid x1).length < 1099511627776, ∀ v ∈ (rdL dAid x1), bdAid v, (rdL dAid x2).length < 1099511627776, ∀ v ∈ (rdL dAid x2), bdAid v])
 | _ => none
theorem D_zw_ok : OkD Tryz.prog 38 D_zw := by unfold D_zw; exact dk N38.den
end Go.Ab

namespace Go.Ab
open Go Go.Proofs
def znf (a0 : (List Aid)) (a1 : (List Aid)) (a2 : (List Aid)) : Bool :=
 (((zib a0) && (zib a1)) && (zib a2))
namespace N107
theorem DD : DOk Tryz.prog (Go.Ab.DD [(79, dP D_zib)]) := DD_cons D_zib_ok.e <| DD_nil _
theorem dn : type_of% (@D_zib.eq_1) := by and_intros <;> intros <;> rfl
theorem gr {p : Prop} (h : p := by (grind [vAids_len]); first | done | fail) : p := h
theorem den (a0 : (List Aid)) (a1 : (List Aid)) (a2 : (List Aid)) (hb0 : a0.length < 1099511627776) (hb1 : ∀ v ∈ a0, bdAid v) (hb2 : a1.length < 1099511627776) (hb3 : ∀ v ∈ a1, bdAid v) (hb4 : a2.length < 1099511627776) (hb5 : ∀ v ∈ a2, bdAid v) : Den Tryz.prog 107 [encL 16 eAid a0, encL 16 eAid a1, encL 16 eAid a2] (.bool (znf a0 a1 a2)) := by
 generalize hR : znf a0 a1 a2 = r
 unfold znf at hR
 refine di Tryz.func107 Tryz.ntmps107 Tryz.results107 ?_
 intro c hL hc hk
 obtain ⟨hL0, hL1, hL2, _⟩ := hL
 have hw0 : a0.length < 9223372036854775808 := Nat.lt_succ_of_le (lens_encL hL0).1
 have hw1 : ∀ v ∈ a0, bwAid v := fun v hv => Aid_lens v ((lens_encL hL0).2 v hv)
 have hw2 : a1.length < 9223372036854775808 := Nat.lt_succ_of_le (lens_encL hL1).1
 have hw3 : ∀ v ∈ a1, bwAid v := fun v hv => Aid_lens v ((lens_encL hL1).2 v hv)
 have hw4 : a2.length < 9223372036854775808 := Nat.lt_succ_of_le (lens_encL hL2).1
 have hw5 : ∀ v ∈ a2, bwAid v := fun v hv => Aid_lens v ((lens_encL hL2).2 v hv)
 clear hL0 hL1 hL2
 simp only [pars, Nat.zero_add]
 iterate 2 refine rS ?_
 refine AWP.ret ?_
 subst hR
 exact es
end N107
def D_znf : DF
 | [x0, x1, x2] => some (.bool (znf (rdL dAid x0) (rdL dAid x1) (rdL dAid x2)), false, [wL 16 eAid dAid x0, wL 16 eAid dAid x1, wL 16 eAid dAid x2, (rdL dAid x0).length < 1099511627776, ∀ v ∈ (rdL dAid x0), bdAid v, (rdL dAid x1).length < 1099511627776, ∀ v ∈ (rdL dAid x1), bdAid v, (rdL dAid x2).length < 1099511627776, ∀ v ∈ (rdL dAid x2), bdAid v])
 | _ => none
theorem D_znf_ok : OkD Tryz.prog 107 D_znf := by unfold D_znf; exact dk N107.den
end Go.Ab

namespace Go.Ab
open Go Go.Proofs
def zfb_b1 (a0 : (List Aid)) (a1 : (List Aid)) (a2 : (List Aid)) (i1 : Nat) (s1 : List Aid) : Except (((List Aid) × Int)) (List Aid) :=
 (bif (zbd (zy a1 ((zf [a1, a2]).getD i1 default)) (zy a0 ((zf [a1, a2]).getD i1 default))) then (bif (zy a2 ((zf [a1, a2]).getD i1 default)).found then .ok (s1 ++ [zec ((zy a2 ((zf [a1, a2]).getD i1 default)).aid)]) else .ok s1) else (bif (zy a1 ((zf [a1, a2]).getD i1 default)).found then .ok (s1 ++ [zec ((zy a1 ((zf [a1, a2]).getD i1 default)).aid)]) else .ok s1))
def zfb (a0 : (List Aid)) (a1 : (List Aid)) (a2 : (List Aid)) : ((List Aid) × Int) :=
 (bif (!(znf a0 a1 a2)) then ([], 1) else (bif decide (0 < ((zwc a0 a1 a2).length : Int)) then ([], 6) else (match loopR (zfb_b1 a0 a1 a2) (((zf [a1, a2]).length) - 0) 0 ([] : List Aid) with | .error e => e | .ok s1 => (bif (!(zt (s1.length : Int) 24)) then ([], 5) else (s1, 0)))))
namespace N39
theorem DD : DOk Tryz.prog (Go.Ab.DD [(107, dP D_znf), (108, dP D_zwc), (109, dP D_zf), (110, dP D_zy), (111, dP D_zbd), (112, dP D_zt), (81, dP D_zec)]) := DD_cons D_znf_ok.e <| DD_cons D_zwc_ok.e <| DD_cons D_zf_ok.e <| DD_cons D_zy_ok.e <| DD_cons D_zbd_ok.e <| DD_cons D_zt_ok.e <| DD_cons D_zec_ok.e <| DD_nil _
theorem dn : type_of% (And.intro @D_znf.eq_1 <| And.intro @D_zwc.eq_1 <| And.intro @D_zf.eq_1 <| And.intro @D_zy.eq_1 <| And.intro @D_zbd.eq_1 <| And.intro @D_zt.eq_1 <| @D_zec.eq_1) := by and_intros <;> intros <;> rfl
theorem gr {p : Prop} (h : p := by (grind [numbersIn_len]); first | done | fail) : p := h
theorem o1 {p : Prop} (h : p := by (first | (exact ist_bd _ _ (by assumption))); first | done | fail) : p := h
theorem o2 {p : Prop} (h : p := by (first | (and_intros <;> first | rfl | decide | (rw [IntKind.wrap_i64]; omega) | (simp only [List.length_append, List.length_singleton]; (first | done | fail)) | (intro j hj; by_cases hji : j < s1.length; (focus (simp only [app_lt hji, blt_t hji, cond_true]; first | (first | done | fail) | rfl | (and_intros <;> rfl))); (simp only [app_eq hji hj, blt_f hji, cond_false]; first | (first | done | fail) | rfl | (and_intros <;> rfl))))); first | done | fail) : p := h
theorem lx {p : Prop} (h : p := by (exact lxx); first | done | fail) : p := h
set_option maxHeartbeats 2000000 in
set_option maxRecDepth 20000 in
theorem den (a0 : (List Aid)) (a1 : (List Aid)) (a2 : (List Aid)) (hb0 : a0.length < 1099511627776) (hb1 : ∀ v ∈ a0, bdAid v) (hb2 : a1.length < 1099511627776) (hb3 : ∀ v ∈ a1, bdAid v) (hb4 : a2.length < 1099511627776) (hb5 : ∀ v ∈ a2, bdAid v) : Den Tryz.prog 39 [encL 16 eAid a0, encL 16 eAid a1, encL 16 eAid a2] (.tup [ownL 63 16 eAidO ((zfb a0 a1 a2).1), .int .i64 ((zfb a0 a1 a2).2)]) := by
 generalize hR : zfb a0 a1 a2 = r
 unfold zfb at hR
 refine di Tryz.func39 Tryz.ntmps39 Tryz.results39 ?_
 intro c hL hc hk
 obtain ⟨hL0, hL1, hL2, _⟩ := hL
 have hw0 : a0.length < 9223372036854775808 := Nat.lt_succ_of_le (lens_encL hL0).1
 have hw1 : ∀ v ∈ a0, bwAid v := fun v hv => Aid_lens v ((lens_encL hL0).2 v hv)
 have hw2 : a1.length < 9223372036854775808 := Nat.lt_succ_of_le (lens_encL hL1).1
 have hw3 : ∀ v ∈ a1, bwAid v := fun v hv => Aid_lens v ((lens_encL hL1).2 v hv)
 have hw4 : a2.length < 9223372036854775808 := Nat.lt_succ_of_le (lens_encL hL2).1
 have hw5 : ∀ v ∈ a2, bwAid v := fun v hv => Aid_lens v ((lens_encL hL2).2 v hv)
 clear hL0 hL1 hL2
 simp only [pars, Nat.zero_add]
 have hnl := numbersIn_len [a1, a2]
 iterate 2 refine rS ?_
 refine AWP.cond rfl (fun hb => ?_) (fun hb => ?_)
 ·replace hR := ct hR
  refine rS ?_
  refine AWP.ret ?_
  subst hR
  exact es
 ·replace hR := cf hR
  refine rS ?_
  refine AWP.cond rfl (fun hb => ?_) (fun hb => ?_)
  ·replace hR := ct hR
   refine rS ?_
   refine AWP.ret ?_
   subst hR
   exact es
  ·replace hR := cf hR
   iterate 2 refine rS ?_
   refine AWP.block ?_
   generalize hz1 : loopR (zfb_b1 a0 a1 a2) (((zf [a1, a2]).length) - 0) 0 ([] : List Aid) = z1 at hR
   refine AWP.range (zfb_b1 a0 a1 a2) (fun i1 s1 => ⟨[(0, encL 16 eAid a0), (1, encL 16 eAid a1), (2, encL 16 eAid a2), (8, .ref 0 16 0 s1.length), (27, .ref 1 1 0 ((zf [a1, a2]).length)), (28, .int .i64 ((zf [a1, a2]).length : Int)), (29, .int .i64 (i1 : Int))], [.arr 63 16 s1.length (fun j => eAidO (s1.getD j default)), .arr 2 1 (zf [a1, a2]).length (fun j => eIi64 ((zf [a1, a2]).getD j default))]⟩) (fun i1 s1 => s1.length ≤ ([] : List Aid).length + 1 * i1 ∧ s1.length ≤ i1) (((zf [a1, a2]).length)) 0 ([] : List Aid) [1, 3] hz1 ot wt sm ?_
   clear hz1
   intro i1 s1 hi1 hW1 hz1
   refine rS ?_
   refine AWP.seq ?_
   refine AWP.cond rfl (fun hb => ?_) (fun hb => ?_)
   ·have hlt1 : i1 < ((zf [a1, a2]).length) := ot
    rw [loopR_lt hlt1] at hz1; simp only [zfb_b1] at hz1
    iterate 2 refine rS ?_
    refine rD 4 ?_
    refine AWP.cond rfl (fun hb => ?_) (fun hb => ?_)
    ·simp only [hb, cond_true] at hz1
     iterate 2 refine rS ?_
     refine AWP.cond rfl (fun hb => ?_) (fun hb => ?_)
     ·simp only [hb, cond_true] at hz1
      iterate 2 refine rS ?_
      exact ⟨_, [6, 1], hlt1, wt, hz1, sm⟩
     ·simp only [hb, cond_false] at hz1
      refine rS ?_
      exact ⟨_, [0, 1], hlt1, wt, hz1, sm⟩
    ·simp only [hb, cond_false] at hz1
     refine rS ?_
     refine AWP.cond rfl (fun hb => ?_) (fun hb => ?_)
     ·simp only [hb, cond_true] at hz1
      iterate 2 refine rS ?_
      exact ⟨_, [6, 1], hlt1, wt, hz1, sm⟩
     ·simp only [hb, cond_false] at hz1
      refine rS ?_
      exact ⟨_, [0, 1], hlt1, wt, hz1, sm⟩
   ·obtain rfl : i1 = ((zf [a1, a2]).length) := ot
    rw [loopR_ge (Nat.le_refl _)] at hz1; subst hz1; dsimp only at hR
    refine AWP.exit ?_; refine exitTo_here ?_
    refine rS ?_
    refine AWP.cond rfl (fun hb => ?_) (fun hb => ?_)
    ·replace hR := ct hR
     refine rS ?_
     refine AWP.ret ?_
     subst hR
     exact es
    ·replace hR := cf hR
     refine rS ?_
     refine AWP.ret ?_
     subst hR
     exact es
end N39
def D_zfb : DF
 | [x0, x1, x2] => some (.tup [ownL 63 16 eAidO ((zfb (rdL dAid x0) (rdL dAid x1) (rdL dAid x2)).1), .int .i64 ((zfb (rdL dAid x0) (rdL dAid x1) (rdL dAid x2)).2)], false, [wL 16 eAid dAid x0, wL 16 eAid dAid x1, wL 16 eAid dAid x2, (rdL dAid x0).length < 1099511627776, ∀ v ∈ (rdL dAid x0), bdAid v, (rdL dAid x1).length < 1099511627776, ∀ v ∈ (rdL dAid x1), bdAid v, (rdL dAid x2).length < 1099511627776, ∀ v ∈ (rdL dAid x2), bdAid v])
 | _ => none
theorem D_zfb_ok : OkD Tryz.prog 39 D_zfb := by unfold D_zfb; exact dk N39.den
end Go.Ab

namespace Go.Ab
open Go Go.Proofs
def zrf (a0 : (List Aid)) (a1 : (List Aid)) (a2 : (List Aid)) : Bool :=
 (bif decide ((zg a0 1048576) < 0) then true else (bif decide ((zg a1 (zg a0 1048576)) < 0) then true else (bif decide ((zg a2 (zg a1 (zg a0 1048576))) < 0) then true else (bif ((!(zr ((zfb (za a0) (za a1) (za a2)).1) ((zw (za a0) (za a1) (za a2)).1))) || (((zfb (za a0) (za a1) (za a2)).2) != ((zw (za a0) (za a1) (za a2)).2))) then false else (bif (!(zr (za a0) (za a0))) then false else (bif (!(zr (za a1) (za a1))) then false else (bif (!(zr (za a2) (za a2))) then false else (bif ((decide (((zq (za a2) ((zq (za a1) ((zq (za a0) 1).1)).1)).1) < 0) || (!(zr ((zfb (za a0) (za a1) (za a2)).1) ((zw (za a0) (za a1) (za a2)).1)))) || (((zfb (za a0) (za a1) (za a2)).2) != ((zw (za a0) (za a1) (za a2)).2))) then false else (bif decide ((zab ((zq ((zfb (za a0) (za a1) (za a2)).1) 1).2) 1) < 0) then false else (bif ((zab ((zq ((zfb (za a0) (za a1) (za a2)).1) 1).2) 1) != ((zq ((zfb (za a0) (za a1) (za a2)).1) 1).1)) then false else true))))))))))
namespace N6
theorem DD : DOk Tryz.prog (Go.Ab.DD [(22, dP D_zg), (24, dP D_za), (27, dP D_zr), (37, dP D_zab), (38, dP D_zw), (39, dP D_zfb)]) := DD_cons D_zg_ok.e <| DD_cons D_za_ok.e <| DD_cons D_zr_ok.e <| DD_cons D_zab_ok.e <| DD_cons D_zw_ok.e <| DD_cons D_zfb_ok.e <| DD_nil _
theorem dn : type_of% (And.intro @D_zg.eq_1 <| And.intro @D_za.eq_1 <| And.intro @D_zr.eq_1 <| And.intro @D_zab.eq_1 <| And.intro @D_zw.eq_1 <| And.intro @D_zfb.eq_1 <| And.intro @markAidS_sub <| @markAidS_sub) := And.intro @D_zg.eq_1 <| And.intro @D_za.eq_1 <| And.intro @D_zr.eq_1 <| And.intro @D_zab.eq_1 <| And.intro @D_zw.eq_1 <| And.intro @D_zfb.eq_1 <| And.intro @markAidS_sub <| @markAidS_sub
theorem ol : type_of% (And.intro @za_id <| @markAidS_len) := And.intro @za_id <| @markAidS_len
theorem gr {p : Prop} (h : p := by (grind [markAidS_le, markAidS_le]); first | done | fail) : p := h
theorem o1 {p : Prop} (h : p := by (first | (exact mrg) | (exact markAidS_le _ _ (by exact mrg)) | (exact markAidS_le _ _ (markAidS_le _ _ (by exact mrg))) | ((try simp only [ol]); first | (have h9 := hG0 (by assumption); first | exact h9.2 | exact h9.1 | omega) | (have h9 := hG1 (by assumption); first | exact h9.2 | exact h9.1 | omega) | (have h9 := hG2 (by assumption); first | exact h9.2 | exact h9.1 | omega))); first | done | fail) : p := h
set_option maxHeartbeats 4000000 in
set_option maxRecDepth 20000 in
theorem _root_.Go.Ab.zrf_den (a0 : (List Aid)) (a1 : (List Aid)) (a2 : (List Aid))  : Den Tryz.prog 6 [encL 16 eAid a0, encL 16 eAid a1, encL 16 eAid a2] (.bool (zrf a0 a1 a2)) := by
 generalize hR : zrf a0 a1 a2 = r
 unfold zrf at hR
 refine den_introL G_ok Tryz.func6 (by kernel_rfl) rfl Tryz.ntmps6 (by rw [Tryz.results6]) (by simp) rfl ?_
 intro c u hdp hlit hL hc hk
 obtain ⟨hL0, hL1, hL2, _⟩ := hL
 have hw0 : a0.length < 9223372036854775808 := Nat.lt_succ_of_le (lens_encL hL0).1
 have hw1 : ∀ v ∈ a0, bwAid v := fun v hv => Aid_lens v ((lens_encL hL0).2 v hv)
 have hw2 : a1.length < 9223372036854775808 := Nat.lt_succ_of_le (lens_encL hL1).1
 have hw3 : ∀ v ∈ a1, bwAid v := fun v hv => Aid_lens v ((lens_encL hL1).2 v hv)
 have hw4 : a2.length < 9223372036854775808 := Nat.lt_succ_of_le (lens_encL hL2).1
 have hw5 : ∀ v ∈ a2, bwAid v := fun v hv => Aid_lens v ((lens_encL hL2).2 v hv)
 clear hL0 hL1 hL2
 simp only [litN, lit1, litM, litS1, litR, litRM, encL, sv, Nat.zero_add, Nat.reduceAdd] at hlit
 simp only [litN, lit1, litM, litS1, encL, sv, pars, Nat.zero_add, Nat.reduceAdd]
 have hf0 := zg_facts a0 (1048576) (by omega) (by omega) hw0 hw1
 have hf1 := zg_facts a1 (zg a0 (1048576)) (by omega) (by omega) hw2 hw3
 have hf2 := zg_facts a2 (zg a1 (zg a0 (1048576))) (by omega) (by omega) hw4 hw5
 have hG0 : decide (zg a0 (1048576) < 0) = false → a0.length ≤ 1048576 ∧ ∀ x ∈ a0, bdAid x := fun h => ⟨(hf0.2.2 (of_decide_eq_false h)).1, fun x hx => smAid_bd x ((hf0.2.2 (of_decide_eq_false h)).2 x hx)⟩
 have hG1 : decide (zg a1 (zg a0 (1048576)) < 0) = false → a1.length ≤ 1048576 ∧ ∀ x ∈ a1, bdAid x := fun h => ⟨(hf1.2.2 (of_decide_eq_false h)).1, fun x hx => smAid_bd x ((hf1.2.2 (of_decide_eq_false h)).2 x hx)⟩
 have hG2 : decide (zg a2 (zg a1 (zg a0 (1048576))) < 0) = false → a2.length ≤ 1048576 ∧ ∀ x ∈ a2, bdAid x := fun h => ⟨(hf2.2.2 (of_decide_eq_false h)).1, fun x hx => smAid_bd x ((hf2.2.2 (of_decide_eq_false h)).2 x hx)⟩
 iterate 4 refine rS ?_
 refine AWP.cond rfl (fun hb => ?_) (fun hb => ?_)
 ·replace hR := ct hR
  refine rS ?_
  refine AWP.ret ?_
  subst hR
  exact es
 ·replace hR := cf hR
  iterate 2 refine rS ?_
  refine AWP.cond rfl (fun hb => ?_) (fun hb => ?_)
  ·replace hR := ct hR
   refine rS ?_
   refine AWP.ret ?_
   subst hR
   exact es
  ·replace hR := cf hR
   iterate 2 refine rS ?_
   refine AWP.cond rfl (fun hb => ?_) (fun hb => ?_)
   ·replace hR := ct hR
    refine rS ?_
    refine AWP.ret ?_
    subst hR
    exact es
   ·replace hR := cf hR
    iterate 6 refine rS ?_
    refine AWP.cond rfl (fun hb => ?_) (fun hb => ?_)
    ·replace hR := ct hR
     refine rS ?_
     refine AWP.ret ?_
     subst hR
     exact es
    ·replace hR := cf hR
     refine rS ?_
     refine AWP.cond rfl (fun hb => ?_) (fun hb => ?_)
     ·replace hR := ct hR
      refine rS ?_
      refine AWP.ret ?_
      subst hR
      exact es
     ·replace hR := cf hR
      refine rS ?_
      refine AWP.cond rfl (fun hb => ?_) (fun hb => ?_)
      ·replace hR := ct hR
       refine rS ?_
       refine AWP.ret ?_
       subst hR
       exact es
      ·replace hR := cf hR
       refine rS ?_
       refine AWP.cond rfl (fun hb => ?_) (fun hb => ?_)
       ·replace hR := ct hR
        refine rS ?_
        refine AWP.ret ?_
        subst hR
        exact es
       ·replace hR := cf hR
        refine rS ?_
        refine AWP.seq ?_
        refine rX 2 (N28.den (za a0) 1 ot) ?_
        refine AWP.seq ?_
        refine rX 2 (N28.den (za a1) ((zq (za a0) 1).1) ot) ?_
        refine AWP.seq ?_
        refine rX 2 (N28.den (za a2) ((zq (za a1) ((zq (za a0) 1).1)).1) ot) ?_
        refine rS ?_
        refine AWP.cond rfl (fun hb => ?_) (fun hb => ?_)
        ·replace hR := ct hR
         refine rS ?_
         refine AWP.ret ?_
         subst hR
         exact es
        ·replace hR := cf hR
         refine rS ?_
         refine AWP.seq ?_
         refine rX 2 (N28.den ((zfb (za a0) (za a1) (za a2)).1) 1 ot) ?_
         iterate 3 refine rS ?_
         refine AWP.cond rfl (fun hb => ?_) (fun hb => ?_)
         ·replace hR := ct hR
          refine rS ?_
          refine AWP.ret ?_
          subst hR
          exact es
         ·replace hR := cf hR
          refine rS ?_
          refine AWP.cond rfl (fun hb => ?_) (fun hb => ?_)
          ·replace hR := ct hR
           refine rS ?_
           refine AWP.ret ?_
           subst hR
           exact es
          ·replace hR := cf hR
           iterate 2 refine rS ?_
           refine AWP.cond rfl (fun hb => ?_) (fun hb => ?_)
           ·exfalso; simp_all
           ·refine rS ?_
            iterate 2 refine rS ?_
            refine AWP.cond rfl (fun hb => ?_) (fun hb => ?_)
            ·exfalso; simp_all
            ·refine rS ?_
             refine AWP.cond rfl (fun hb => ?_) (fun hb => ?_)
             ·exfalso; simp_all
             ·refine rS ?_
              refine AWP.ret ?_
              subst hR
              exact es
end N6
end Go.Ab
