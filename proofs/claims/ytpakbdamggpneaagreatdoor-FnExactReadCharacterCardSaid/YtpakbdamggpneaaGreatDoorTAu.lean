/- A part of a proof: walks of functions and lemmas of our own. No conditions. -/
import Derived.Test.YtpakbdamggpneaaGreatDoorTAt
import Derived.Test.YtpakbdamggpneaaGreatDoorTAs
import Derived.Test.YtpakbdamggpneaaGreatDoorTAp
import Derived.Test.YtpakbdamggpneaaGreatDoorTAr
import Derived.Test.YtpakbdamggpneaaGreatDoorTAl
import Derived.Test.YtpakbdamggpneaaGreatDoorTAq
import Derived.Test.YtpakbdamggpneaaGreatDoorTAo
import Derived.Test.YtpakbdamggpneaaGreatDoorTAm
import Derived.Test.YtpakbdamggpneaaGreatDoorTAi
set_option linter.unusedSectionVars false
set_option linter.unusedVariables false
set_option linter.unusedSimpArgs false
set_option maxHeartbeats 1000000
namespace Go.Ab
open Go Go.Proofs
def parB (s : List UInt8 × List UInt8 × Int) : Except (Sum (Character × Bool) (List UInt8 × List UInt8 × Int)) (List UInt8 × List UInt8 × Int) :=
  (bif decide (s.2.2 < (s.1.length : Int)) then (bif ((((s.1.getD ((s.2.2).toNat) 0).toNat : Int) == 40) && (((s.1.getD ((IntKind.wrap .i64 ((s.1.length : Int) - 1)).toNat) 0).toNat : Int) == 41)) then .error (.inr (s.1.take ((s.2.2).toNat), (s.1.take ((IntKind.wrap .i64 ((s.1.length : Int) - 1)).toNat)).drop ((IntKind.wrap .i64 (s.2.2 + 1)).toNat), s.2.2)) else .ok (s.1, s.2.1, IntKind.wrap .i64 (s.2.2 + 1))) else .error (.inr (s.1, s.2.1, s.2.2)))
theorem par_found (p X : List UInt8) (h40 : (40 : UInt8) ∉ p) (hl : (p ++ 40 :: (X ++ [41])).length ≤ 1048576) : ∀ (k i n : Nat), i + k = p.length → k < n →
    loopW parB n (p ++ 40 :: (X ++ [41]), [], (i : Int)) = .error (.inr (p, X, (p.length : Int)))
  | k, i, 0, _, h => by omega
  | 0, i, n + 1, h, _ => by
    have hi : i = p.length := by omega
    subst hi
    simp only [List.length_append, List.length_cons, List.length_nil] at hl
    have d1 : decide (((p.length : Nat) : Int) < ((p ++ 40 :: (X ++ [41])).length : Int)) = true := decide_eq_true (by simp only [List.length_append, List.length_cons, List.length_nil]; omega)
    have w1 : IntKind.wrap .i64 (((p ++ 40 :: (X ++ [41])).length : Int) - 1) = ((p.length + 1 + X.length : Nat) : Int) := by
      simp only [List.length_append, List.length_cons, List.length_nil]; rw [IntKind.wrap_i64]; omega
    have w2 : IntKind.wrap .i64 ((p.length : Int) + 1) = ((p.length + 1 : Nat) : Int) := by rw [IntKind.wrap_i64]; omega
    have g1 : (p ++ 40 :: (X ++ [41])).getD p.length 0 = 40 := by
      rw [List.getD_eq_getElem?_getD, List.getElem?_append_right (Nat.le_refl _)]; simp
    have g2 : (p ++ 40 :: (X ++ [41])).getD (p.length + 1 + X.length) 0 = 41 := by
      rw [List.getD_eq_getElem?_getD, List.getElem?_append_right (by omega), show p.length + 1 + X.length - p.length = X.length + 1 by omega, List.getElem?_cons_succ, List.getElem?_append_right (Nat.le_refl _)]; simp
    simp only [loopW, parB]
    rw [d1, w1, w2, Int.toNat_natCast, Int.toNat_natCast, Int.toNat_natCast, g1, g2]
    have t1 : (p ++ 40 :: (X ++ [41])).take p.length = p := List.take_left' rfl
    have t2 : ((p ++ 40 :: (X ++ [41])).take (p.length + 1 + X.length)).drop (p.length + 1) = X := by
      have : p ++ 40 :: (X ++ [41]) = (p ++ [40]) ++ (X ++ [41]) := by simp
      rw [this, List.take_append, List.drop_append]
      simp
    rw [t1, t2]
    rfl
  | k + 1, i, n + 1, h, hn => by
    simp only [List.length_append, List.length_cons, List.length_nil] at hl
    have d1 : decide ((i : Int) < ((p ++ 40 :: (X ++ [41])).length : Int)) = true := decide_eq_true (by simp only [List.length_append, List.length_cons, List.length_nil]; omega)
    have w2 : IntKind.wrap .i64 ((i : Int) + 1) = ((i + 1 : Nat) : Int) := by rw [IntKind.wrap_i64]; omega
    have hi : i < p.length := by omega
    have g1 : (((((p ++ 40 :: (X ++ [41])).getD i 0).toNat : Int)) == 40) = false := by
      rw [List.getD_eq_getElem?_getD, List.getElem?_append_left hi, List.getElem?_eq_getElem hi, Option.getD_some, beq_eq_false_iff_ne]
      intro he
      have : p[i] = 40 := UInt8.toNat_inj.1 (by show _ = 40; omega)
      exact h40 (this ▸ List.getElem_mem hi)
    have := par_found p X h40 (by simp only [List.length_append, List.length_cons, List.length_nil]; exact hl) k (i + 1) n (by omega) (by omega)
    simp only [loopW, parB]
    rw [d1, Int.toNat_natCast, g1, w2]
    simp only [Bool.false_and, cond_true, cond_false]
    exact this
theorem par_none (p : List UInt8) (h40 : (40 : UInt8) ∉ p) (hl : p.length ≤ 1048576) : ∀ (k i n : Nat), i + k = p.length → k < n →
    loopW parB n (p, [], (i : Int)) = .error (.inr (p, [], (p.length : Int)))
  | k, i, 0, _, h => by omega
  | 0, i, n + 1, h, _ => by
    have hi : i = p.length := by omega
    subst hi
    simp only [loopW, parB]
    rw [decide_eq_false (by omega)]
    rfl
  | k + 1, i, n + 1, h, hn => by
    have hi : i < p.length := by omega
    have d1 : decide ((i : Int) < (p.length : Int)) = true := decide_eq_true (by omega)
    have w2 : IntKind.wrap .i64 ((i : Int) + 1) = ((i + 1 : Nat) : Int) := by rw [IntKind.wrap_i64]; omega
    have g1 : ((((p.getD i 0).toNat : Int)) == 40) = false := by
      rw [List.getD_eq_getElem?_getD, List.getElem?_eq_getElem hi, Option.getD_some, beq_eq_false_iff_ne]
      intro he
      have : p[i] = 40 := UInt8.toNat_inj.1 (by show _ = 40; omega)
      exact h40 (this ▸ List.getElem_mem hi)
    have := par_none p h40 hl k (i + 1) n (by omega) (by omega)
    simp only [loopW, parB]
    rw [d1, Int.toNat_natCast, g1, w2]
    simp only [Bool.false_and, cond_true, cond_false]
    exact this
theorem kinds_s (k : Int) (hk : 1 ≤ k ∧ k ≤ 8) (b : Nat → Int → Except (Character × Bool) Int) (hb : ∀ i s, b i s = (bif (((spec_l05Kinds ).getD i default) == kt k) then .ok (i : Int) else .ok s)) :
    loopR b (((spec_l05Kinds ).length) - 1) 1 0 = .ok k := by
  have e : b = fun i s => (bif (((spec_l05Kinds ).getD i default) == kt k) then .ok (i : Int) else .ok s) := funext fun i => funext fun s => hb i s
  rw [e]
  rcases (show k = 1 ∨ k = 2 ∨ k = 3 ∨ k = 4 ∨ k = 5 ∨ k = 6 ∨ k = 7 ∨ k = 8 by omega) with h | h | h | h | h | h | h | h <;> subst h <;> rfl
theorem grp_s {ρ : Type} (g : List Int) (h2 : ∀ v ∈ g, 1 ≤ v ∧ v ≤ 9) (r : Nat → List Int → ρ) (b : Nat → List Int → Except ρ (List Int))
    (hb : ∀ i s, b i s = (bif (!(spec_l01Number ((g.map Lib.itoa).getD i default)).2) then .error (r i s) else .ok (s ++ ([(spec_l01Number ((g.map Lib.itoa).getD i default)).1] : List Int)))) :
    loopR b ((g.map Lib.itoa).length - 0) 0 [] = .ok g := by
  refine grp_w g h2 r b (fun i s => ?_)
  rw [hb]
  have e : spec_l01Number ((g.map Lib.itoa).getD i default) = impl_ReadDecimal ((g.map Lib.itoa).getD i default) := by
    have hlen : ((g.map Lib.itoa).getD i default).length ≤ 1048576 := by
      rw [List.getD_eq_getElem?_getD, List.getElem?_map]
      cases hg : g[i]? with
      | none => show (0 : Nat) ≤ _; omega
      | some x =>
        have := h2 x (List.mem_of_getElem? hg)
        have := itoa_len20 x (by omega) (by omega)
        simp only [Option.map_some, Option.getD_some]; omega
    exact (number_eq _ hlen).symm
  rw [e]
end Go.Ab

namespace Go.Ab
open Go Go.Proofs
def spec_l05Period_b1 (a0 : (List UInt8)) (s1 : Int) : Except (Sum ((Int × Bool)) (Int)) (Int) :=
  (bif decide (s1 ≤ 600) then (bif ((spec_l05Seconds s1) == a0) then .error (.inl (s1, true)) else .ok (IntKind.wrap .i64 (s1 + 1))) else .error (.inr s1))
def spec_l05Period (a0 : (List UInt8)) : (Int × Bool) :=
  (match loopW (spec_l05Period_b1 a0) (((601 - (1 : Int)).toNat) + 1) 1 with | .error (.inl e) => e | .error (.inr s1) => (0, false) | .ok _ => default)
namespace N85
theorem DD : DOk Tryz.prog (Go.Ab.DD [(126, dP D_spec_l05Seconds)]) := DD_cons D_spec_l05Seconds_ok.e <| DD_nil _
theorem dn : type_of% (@D_spec_l05Seconds.eq_1) := by and_intros <;> intros <;> rfl
theorem den (a0 : (List UInt8)) (hb0 : a0.length < 1099511627776) : Den Tryz.prog 85 [.str a0] (.tup [.int .i64 ((spec_l05Period a0).1), .bool ((spec_l05Period a0).2)]) := by
  generalize hR : spec_l05Period a0 = r
  unfold spec_l05Period at hR
  refine di Tryz.func85 Tryz.ntmps85 Tryz.results85 ?_
  intro c hL hc hk
  obtain ⟨hL0, _⟩ := hL
  have hw0 : a0.length < 9223372036854775808 := Nat.lt_succ_of_le hL0
  clear hL0
  simp only [pars, Nat.zero_add]
  iterate 2 refine rS ?_
  refine AWP.block ?_
  generalize hz1 : loopW (spec_l05Period_b1 a0) (((601 - (1 : Int)).toNat) + 1) 1 = z1 at hR
  refine AWP.whileW (spec_l05Period_b1 a0) (fun s1 => ⟨[(0, .str a0), (4, .int .i64 s1)], []⟩) (fun s1 => 1 ≤ s1 ∧ s1 ≤ 601) (fun s1 => (601 - s1).toNat) (((601 - (1 : Int)).toNat) + 1) 1 [] hz1 m0 wt sm ?_
  clear hz1
  intro s1 k1 hW1 hm1 hz1
  simp only [spec_l05Period_b1] at hz1
  refine rS ?_
  refine AWP.cond rfl (fun hb => ?_) (fun hb => ?_)
  · simp only [hb, cond_true] at hz1
    refine rS ?_
    refine AWP.cond rfl (fun hb => ?_) (fun hb => ?_)
    · simp only [hb, cond_true] at hz1
      refine rS ?_
      refine AWP.ret ?_
      subst hz1
      dsimp only at hR
      subst hR
      exact es
    · simp only [hb, cond_false] at hz1
      refine rS ?_
      exact ⟨_, [], ms, wt, hz1, sm⟩
  · simp only [hb, cond_false] at hz1
    refine AWP.exit ?_
    refine exitTo_here ?_
    subst hz1; dsimp only at hR
    refine rS ?_
    refine AWP.ret ?_
    subst hR
    exact es
end N85
def D_spec_l05Period : DF
  | [x0] => some (.tup [.int .i64 ((spec_l05Period (rdS x0)).1), .bool ((spec_l05Period (rdS x0)).2)], false, [wS x0, (rdS x0).length < 1099511627776])
  | _ => none
theorem D_spec_l05Period_ok : OkD Tryz.prog 85 D_spec_l05Period := by unfold D_spec_l05Period; exact dk N85.den
end Go.Ab

namespace Go.Ab
open Go Go.Proofs
theorem grp_bd2 (b : Nat → List Int → Except (Character × Bool) (List Int)) (f : List Int → Character × Bool) (hb : ∀ i s, s.length ≤ 1048577 → (∃ x, b i s = .ok (s ++ [x])) ∨ ∃ e, b i s = .error e ∧ CBd e)
    (hf : ∀ s, s.length ≤ 1048577 → CBd (f s)) : ∀ (k i : Nat) (s : List Int), s.length ≤ i → i + k ≤ 1048577 → CBd (match loopR b k i s with | .error e => e | .ok s => f s)
  | 0, i, s, hs, hk => by simp only [loopR]; exact hf s (by omega)
  | k + 1, i, s, hs, hk => by
    simp only [loopR]
    rcases hb i s (by omega) with ⟨x, hx⟩ | ⟨e, he, hc⟩
    · rw [hx]
      exact grp_bd2 b f hb hf k (i + 1) (s ++ [x]) (by simp only [List.length_append, List.length_singleton]; omega) (by omega)
    · rw [he]; exact hc
theorem kinds_ok (b : Nat → Int → Except (Character × Bool) Int) (hb : ∀ i s, ∃ t, b i s = .ok t) (f : Int → Character × Bool) (hf : ∀ k, CBd (f k)) (n i : Nat) (s : Int) : CBd (match loopR b n i s with | .error e => e | .ok s => f s) := by
  cases h : loopR b n i s with
  | error e =>
    obtain ⟨j, t, _, _, h3⟩ := loopR_error h
    obtain ⟨u, hu⟩ := hb j t
    rw [hu] at h3; cases h3
  | ok t => exact hf t
theorem l05Head_bd (a : List UInt8) (ha : a.length ≤ 1048576) : CBd (spec_l05Head a) := by
  have hdef : CBd (default : Character × Bool) := ⟨by show (0 : Nat) ≤ _; omega, by show (0 : Nat) ≤ _; omega, by show (0 : Nat) ≤ _; omega⟩
  have hw : ∀ (b : List UInt8 × List UInt8 × Int → Except (Sum (Character × Bool) (List UInt8 × List UInt8 × Int)) (List UInt8 × List UInt8 × Int)) (n : Nat) (s : List UInt8 × List UInt8 × Int) (f : List UInt8 × List UInt8 × Int → Character × Bool),
      (∀ s, s.1.length ≤ 1048576 ∧ s.2.1.length ≤ 1048576 → match b s with | .error (.inl e) => False | .error (.inr t) => t.2.1.length ≤ 1048576 | .ok t => t.1.length ≤ 1048576 ∧ t.2.1.length ≤ 1048576) → (s.1.length ≤ 1048576 ∧ s.2.1.length ≤ 1048576) → (∀ s, s.2.1.length ≤ 1048576 → CBd (f s)) →
      CBd (match loopW b n s with | .error (.inl e) => e | .error (.inr s) => f s | .ok _ => default) := by
    intro b n s f hb hs hf
    have h := loopW_inv (body := b) (I := fun s => s.1.length ≤ 1048576 ∧ s.2.1.length ≤ 1048576) (Q := fun r => match r with | .inl e => False | .inr t => t.2.1.length ≤ 1048576) (fun s hI => by
      have := hb s hI
      cases hbs : b s with
      | error r => rw [hbs] at this; cases r with
        | inl e => exact this
        | inr t => exact this
      | ok t => rw [hbs] at this; exact this) n s hs
    cases hl : loopW b n s with
    | error r =>
      rw [hl] at h
      cases r with
      | inl e => exact h.elim
      | inr t => exact hf t h
    | ok t => exact hdef
  have hpar : ∀ s : List UInt8 × List UInt8 × Int, s.1.length ≤ 1048576 ∧ s.2.1.length ≤ 1048576 → match spec_l05Head_b1 a s with | .error (.inl e) => False | .error (.inr t) => t.2.1.length ≤ 1048576 | .ok t => t.1.length ≤ 1048576 ∧ t.2.1.length ≤ 1048576 := by
    intro s hs
    unfold spec_l05Head_b1
    cases decide (s.2.2 < (s.1.length : Int)) with
    | false => exact hs.2
    | true =>
      simp only [cond_true]
      cases ((((s.1.getD ((s.2.2).toNat) 0).toNat : Int) == 40) && (((s.1.getD ((IntKind.wrap .i64 ((s.1.length : Int) - 1)).toNat) 0).toNat : Int) == 41)) with
      | true => simp only [cond_true, List.length_drop, List.length_take]; omega
      | false => exact hs
  have hsp : ∀ s : List UInt8, s.length ≤ 1048576 → (spec_l01Split s 43).length ≤ 1048577 := fun s h => l05split_len s h
  unfold spec_l05Head
  cases (decide (4 < (a.length : Int)) && (((a.take a.length).drop ((IntKind.wrap .i64 ((a.length : Int) - 4)).toNat)) == [43, 76, 70, 108])) with
  | true =>
    simp only [cond_true]
    refine hw _ _ _ _ hpar ⟨by simp only [List.length_take]; omega, by simp⟩ (fun s hs => ?_)
    refine kinds_ok _ (fun i t => ?_) _ (fun k => ?_) _ _ _
    · unfold spec_l05Head_b2
      cases (((spec_l05Kinds ).getD i default) == s.1) with
      | true => exact ⟨_, rfl⟩
      | false => exact ⟨_, rfl⟩
    · cases (k == 8) with
      | true => exact ⟨by simp, by simp only [cond_true, List.length_append, List.length_singleton]; omega, by simp⟩
      | false =>
        simp only [cond_false]
        cases (s.2.1 == []) with
        | true => exact ⟨by simp, by simp, by simp⟩
        | false =>
          simp only [cond_false]
          refine grp_bd2 _ (fun t => ({ Kind := k, Group := t, Letter := [76], Colors := [], Period := 0 : Character }, _)) (fun i t ht => ?_) (fun t ht => ⟨ht, by simp, by simp⟩) _ 0 [] (by simp) (by have := hsp _ hs; omega)
          unfold spec_l05Head_b3
          cases (!((spec_l01Number ((spec_l01Split s.2.1 43).getD i default)).2)) with
          | true => exact .inr ⟨_, rfl, ht, by simp, by simp⟩
          | false => exact .inl ⟨_, rfl⟩
  | false =>
    simp only [cond_false]
    refine hw _ _ _ _ hpar ⟨by simp only; omega, by simp⟩ (fun s hs => ?_)
    refine kinds_ok _ (fun i t => ?_) _ (fun k => ?_) _ _ _
    · unfold spec_l05Head_b5
      cases (((spec_l05Kinds ).getD i default) == s.1) with
      | true => exact ⟨_, rfl⟩
      | false => exact ⟨_, rfl⟩
    · cases (k == 8) with
      | true => exact ⟨by simp, by simp only [cond_true, List.length_append, List.length_nil]; omega, by simp⟩
      | false =>
        simp only [cond_false]
        cases (s.2.1 == []) with
        | true => exact ⟨by simp, by simp, by simp⟩
        | false =>
          simp only [cond_false]
          refine grp_bd2 _ (fun t => ({ Kind := k, Group := t, Letter := [], Colors := [], Period := 0 : Character }, _)) (fun i t ht => ?_) (fun t ht => ⟨ht, by simp, by simp⟩) _ 0 [] (by simp) (by have := hsp _ hs; omega)
          unfold spec_l05Head_b6
          cases (!((spec_l01Number ((spec_l01Split s.2.1 43).getD i default)).2)) with
          | true => exact .inr ⟨_, rfl, ht, by simp, by simp⟩
          | false => exact .inl ⟨_, rfl⟩
theorem sp32_el (a : List UInt8) (h : a.length ≤ 1048576) (i : Nat) : ((spec_l01Split a 32).getD i default).length ≤ 1048576 := by
  rw [show spec_l01Split a 32 = splitC 32 a from spec_l01Split_eq a 32 (by omega), List.getD_eq_getElem?_getD]
  cases hg : (splitC 32 a)[i]? with
  | none => show (0 : Nat) ≤ 1048576; omega
  | some x => have := (splitC_len 32 a).2 x (List.mem_of_getElem? hg); simp only [Option.getD_some]; omega
theorem l05_cb (a : List UInt8) (h : a.length ≤ 1048576) (k p : Int) : bdCharacter { Kind := k, Group := (spec_l05Head ((spec_l01Split a 32).getD 0 default)).1.Group, Letter := (spec_l05Head ((spec_l01Split a 32).getD 0 default)).1.Letter, Colors := (spec_l01Split a 32).getD 1 default, Period := p } := by
  obtain ⟨h1, h2, _⟩ := l05Head_bd _ (sp32_el a h 0)
  have h3 := sp32_el a h 1
  exact ⟨by show List.length _ < _; simp only; omega, by show List.length _ < _; simp only; omega, by show List.length _ < _; simp only; omega⟩
end Go.Ab

namespace Go.Ab
open Go Go.Proofs
def spec_l05Read (a0 : (List UInt8)) : (Character × Bool) :=
  (bif ((((spec_l01Split a0 32).length : Int) != 2) && (((spec_l01Split a0 32).length : Int) != 3)) then ({ Kind := 0, Group := [], Letter := [], Colors := [], Period := 0 : Character }, false) else (bif (((spec_l01Split a0 32).length : Int) == 3) then (bif (((!((spec_l05Head ((spec_l01Split a0 32).getD 0 default)).2 && (spec_l05Period ((spec_l01Split a0 32).getD 2 default)).2)) || (!(spec_l05Ok ({ Kind := ((spec_l05Head ((spec_l01Split a0 32).getD 0 default)).1).Kind, Group := ((spec_l05Head ((spec_l01Split a0 32).getD 0 default)).1).Group, Letter := ((spec_l05Head ((spec_l01Split a0 32).getD 0 default)).1).Letter, Colors := ((spec_l01Split a0 32).getD 1 default), Period := (spec_l05Period ((spec_l01Split a0 32).getD 2 default)).1 : Character })))) || ((spec_l05Text ({ Kind := ((spec_l05Head ((spec_l01Split a0 32).getD 0 default)).1).Kind, Group := ((spec_l05Head ((spec_l01Split a0 32).getD 0 default)).1).Group, Letter := ((spec_l05Head ((spec_l01Split a0 32).getD 0 default)).1).Letter, Colors := ((spec_l01Split a0 32).getD 1 default), Period := (spec_l05Period ((spec_l01Split a0 32).getD 2 default)).1 : Character })) != a0)) then ({ Kind := 0, Group := [], Letter := [], Colors := [], Period := 0 : Character }, false) else ({ Kind := ((spec_l05Head ((spec_l01Split a0 32).getD 0 default)).1).Kind, Group := ((spec_l05Head ((spec_l01Split a0 32).getD 0 default)).1).Group, Letter := ((spec_l05Head ((spec_l01Split a0 32).getD 0 default)).1).Letter, Colors := ((spec_l01Split a0 32).getD 1 default), Period := (spec_l05Period ((spec_l01Split a0 32).getD 2 default)).1 : Character }, true)) else (bif (((!((spec_l05Head ((spec_l01Split a0 32).getD 0 default)).2)) || (!(spec_l05Ok ({ Kind := ((spec_l05Head ((spec_l01Split a0 32).getD 0 default)).1).Kind, Group := ((spec_l05Head ((spec_l01Split a0 32).getD 0 default)).1).Group, Letter := ((spec_l05Head ((spec_l01Split a0 32).getD 0 default)).1).Letter, Colors := ((spec_l01Split a0 32).getD 1 default), Period := ((spec_l05Head ((spec_l01Split a0 32).getD 0 default)).1).Period : Character })))) || ((spec_l05Text ({ Kind := ((spec_l05Head ((spec_l01Split a0 32).getD 0 default)).1).Kind, Group := ((spec_l05Head ((spec_l01Split a0 32).getD 0 default)).1).Group, Letter := ((spec_l05Head ((spec_l01Split a0 32).getD 0 default)).1).Letter, Colors := ((spec_l01Split a0 32).getD 1 default), Period := ((spec_l05Head ((spec_l01Split a0 32).getD 0 default)).1).Period : Character })) != a0)) then ({ Kind := 0, Group := [], Letter := [], Colors := [], Period := 0 : Character }, false) else ({ Kind := ((spec_l05Head ((spec_l01Split a0 32).getD 0 default)).1).Kind, Group := ((spec_l05Head ((spec_l01Split a0 32).getD 0 default)).1).Group, Letter := ((spec_l05Head ((spec_l01Split a0 32).getD 0 default)).1).Letter, Colors := ((spec_l01Split a0 32).getD 1 default), Period := ((spec_l05Head ((spec_l01Split a0 32).getD 0 default)).1).Period : Character }, true))))
namespace N44
theorem DD : DOk Tryz.prog (Go.Ab.DD [(80, dP D_spec_l01Split), (84, dP D_spec_l05Head), (85, dP D_spec_l05Period), (86, dP D_spec_l05Ok), (87, dP D_spec_l05Text)]) := DD_cons D_spec_l01Split_ok.e <| DD_cons D_spec_l05Head_ok.e <| DD_cons D_spec_l05Period_ok.e <| DD_cons D_spec_l05Ok_ok.e <| DD_cons D_spec_l05Text_ok.e <| DD_nil _
theorem dn : type_of% (And.intro @D_spec_l01Split.eq_1 <| And.intro @D_spec_l05Head.eq_1 <| And.intro @D_spec_l05Period.eq_1 <| And.intro @D_spec_l05Ok.eq_1 <| @D_spec_l05Text.eq_1) := by and_intros <;> intros <;> rfl
theorem gr {p : Prop} (h : p := by (grind [l05split_len, l05split_el]); first | done | fail) : p := h
theorem o0 {p : Prop} (h : p := by (first | (have hl9 : 2 ≤ (spec_l01Split a0 32).length := by (have q := ‹((((spec_l01Split a0 32).length : Int) != 2) && (((spec_l01Split a0 32).length : Int) != 3)) = false›; simp at q; omega); have e0 := hel 0; have e1 := hel 1; have e2 := hel 2; and_intros <;> first | omega | (have hb3 := hb; simp at hb3; omega)) | (refine ⟨fun _ => ⟨Nat.le_refl _, hcb _ _⟩, fun q => ?_⟩; have q2 := q; simp only [Bool.not_eq_true', Bool.or_eq_false_iff, Bool.not_eq_false'] at q2; have r := ok_rng _ (Nat.lt_of_le_of_lt (hel 1) (by omega)) q2.2; exact ⟨Nat.le_refl _, hcb _ _, r.1, r.2.1, r.2.2.1, r.2.2.2.1, r.2.2.2.2.1, r.2.2.2.2.2⟩) | (have hl9 : 2 ≤ (spec_l01Split a0 32).length := by (have q := ‹((((spec_l01Split a0 32).length : Int) != 2) && (((spec_l01Split a0 32).length : Int) != 3)) = false›; simp at q; omega); have e0 := hel 0; have e1 := hel 1; omega)); first | done | fail) : p := h
set_option maxHeartbeats 1000000 in
set_option maxRecDepth 20000 in
theorem den (a0 : (List UInt8)) (hb0 : a0.length < 1099511627776) (hp0 : a0.length ≤ 1048576) : Den Tryz.prog 44 [.str a0] (.tup [.agg (eCharacterO ((spec_l05Read a0).1)), .bool ((spec_l05Read a0).2)]) := by
  generalize hR : spec_l05Read a0 = r
  unfold spec_l05Read at hR
  refine di Tryz.func44 Tryz.ntmps44 Tryz.results44 ?_
  intro c hL hc hk
  obtain ⟨hL0, _⟩ := hL
  have hw0 : a0.length < 9223372036854775808 := Nat.lt_succ_of_le hL0
  clear hL0
  simp only [pars, Nat.zero_add]
  have hel := sp32_el a0 hp0
  have hcb := l05_cb a0 hp0
  iterate 3 refine rS ?_
  refine AWP.cond rfl (fun hb => ?_) (fun hb => ?_)
  · replace hR := ct hR
    refine rS ?_
    refine AWP.ret ?_
    subst hR
    exact es
  · replace hR := cf hR
    iterate 3 refine rS ?_
    refine AWP.cond rfl (fun hb => ?_) (fun hb => ?_)
    · replace hR := ct hR
      iterate 4 refine rS ?_
      refine AWP.cond rfl (fun hb => ?_) (fun hb => ?_)
      · replace hR := ct hR
        refine rS ?_
        refine AWP.ret ?_
        subst hR
        exact es
      · replace hR := cf hR
        refine rS ?_
        refine AWP.ret ?_
        subst hR
        exact es
    · replace hR := cf hR
      refine rS ?_
      refine AWP.cond rfl (fun hb => ?_) (fun hb => ?_)
      · replace hR := ct hR
        refine rS ?_
        refine AWP.ret ?_
        subst hR
        exact es
      · replace hR := cf hR
        refine rS ?_
        refine AWP.ret ?_
        subst hR
        exact es
end N44
def D_spec_l05Read : DF
  | [x0] => some (.tup [.agg (eCharacterO ((spec_l05Read (rdS x0)).1)), .bool ((spec_l05Read (rdS x0)).2)], false, [wS x0, (rdS x0).length < 1099511627776, (rdS x0).length ≤ 1048576])
  | _ => none
def Dz_spec_l05Read : DF
  | [x0] => some (.tup [.agg (eCharacterO ((spec_l05Read (rdS x0)).1)), .bool ((spec_l05Read (rdS x0)).2)], true, [wS x0, (rdS x0).length < 1099511627776, (rdS x0).length ≤ 1048576])
  | _ => none
theorem D_spec_l05Read_ok : OkD Tryz.prog 44 D_spec_l05Read := by unfold D_spec_l05Read; exact dk N44.den
theorem Dz_spec_l05Read_ok : OkD Tryz.prog 44 Dz_spec_l05Read := by unfold Dz_spec_l05Read; exact dk N44.den
end Go.Ab

namespace Go.Ab
open Go Go.Proofs
theorem b1_eq (a : List UInt8) : spec_l05Head_b1 a = parB := rfl
theorem b4_eq (a : List UInt8) : spec_l05Head_b4 a = parB := rfl
def lfl (a : List UInt8) : Bool := (decide (4 < (a.length : Int)) && (((a.take a.length).drop ((IntKind.wrap .i64 ((a.length : Int) - 4)).toNat)) == [43, 76, 70, 108]))
theorem lfl_def (a : List UInt8) : (decide (4 < (a.length : Int)) && (((a.take a.length).drop ((IntKind.wrap .i64 ((a.length : Int) - 4)).toNat)) == [43, 76, 70, 108])) = lfl a := rfl
theorem lfl_yes (X : List UInt8) (hX : X ≠ []) (hl : X.length ≤ 1048576) : lfl (X ++ [43, 76, 70, 108]) = true ∧ (X ++ [43, 76, 70, 108]).take ((IntKind.wrap .i64 (((X ++ [43, 76, 70, 108]).length : Int) - 4)).toNat) = X := by
  have hp : 0 < X.length := List.length_pos_iff.2 hX
  have hw : (IntKind.wrap .i64 (((X ++ [43, 76, 70, 108]).length : Int) - 4)).toNat = X.length := by
    simp only [List.length_append, List.length_cons, List.length_nil]; rw [IntKind.wrap_i64]; omega
  unfold lfl
  rw [hw, List.take_length, List.drop_left' rfl, List.take_left' rfl]
  refine ⟨?_, rfl⟩
  rw [decide_eq_true (by simp only [List.length_append, List.length_cons, List.length_nil]; omega)]
  rfl
theorem lfl_no (X : List UInt8) (hl : X.length ≤ 1048576) : lfl (X ++ [41]) = false := by
  unfold lfl
  by_cases h4 : 4 < (((X ++ [41]).length : Int))
  · rw [decide_eq_true h4, List.take_length, Bool.true_and, beq_eq_false_iff_ne]
    intro h
    have h2 : (X ++ [41]) = ((X ++ [41]).take ((IntKind.wrap .i64 (((X ++ [41]).length : Int) - 4)).toNat) ++ [43, 76, 70]) ++ [108] := by
      conv => lhs; rw [← List.take_append_drop ((IntKind.wrap .i64 (((X ++ [41]).length : Int) - 4)).toNat) (X ++ [41]), h]
      simp
    have := congrArg List.getLast? h2
    rw [List.getLast?_append, List.getLast?_append] at this
    simp at this
  · rw [decide_eq_false h4]; rfl
theorem lfl_kt (k : Int) (h : 1 ≤ k ∧ k ≤ 8) : lfl (kt k) = false := by
  rcases (show k = 1 ∨ k = 2 ∨ k = 3 ∨ k = 4 ∨ k = 5 ∨ k = 6 ∨ k = 7 ∨ k = 8 by omega) with h | h | h | h | h | h | h | h <;> subst h <;> rfl
theorem kt_len (k : Int) (h : 1 ≤ k ∧ k ≤ 8) : (kt k).length ≤ 3 ∧ kt k ≠ [] := by
  rcases (show k = 1 ∨ k = 2 ∨ k = 3 ∨ k = 4 ∨ k = 5 ∨ k = 6 ∨ k = 7 ∨ k = 8 by omega) with h | h | h | h | h | h | h | h <;> subst h <;> exact ⟨by decide, by decide⟩
theorem joinT_len (g : List Int) (h1 : g.length ≤ 4) (h2 : ∀ v ∈ g, 1 ≤ v ∧ v ≤ 9) : (Lib.join (g.map Lib.itoa) [43]).length ≤ 100 := by
  have := join_len [43] (g.map Lib.itoa) 20 (fun x hx => by
    obtain ⟨z, hz, rfl⟩ := List.mem_map.1 hx
    have := h2 z hz
    exact itoa_len20 z (by omega) (by omega))
  simp only [List.length_map, List.length_singleton] at this
  omega
theorem headT_len (c : Character) (h : impl_Character_fits c = true) : (headT c).length ≤ 200 := by
  have hk := kind_rng c h
  obtain ⟨g1, g2⟩ := fits_grp c h
  have := (kt_len c.Kind hk).1
  have hj := joinT_len _ g1 g2
  unfold headT
  by_cases h8 : c.Kind = 8
  · rw [if_pos h8]
    have := (fits_8 c h h8).2.1
    have : (kt 8).length = 2 := rfl
    simp only [List.length_append, List.length_cons, List.length_nil]; omega
  · rw [if_neg h8]
    have hg : (grpT c.Group).length ≤ 102 := by
      unfold grpT
      split
      · simp
      · simp only [List.length_append, List.length_cons, List.length_nil]; omega
    have hL : (if c.Letter = [] then ([] : List UInt8) else [43, 76, 70, 108]).length ≤ 4 := by split <;> simp
    rw [List.length_append, List.length_append]; omega
theorem head_spec (c : Character) (h : impl_Character_fits c = true) : spec_l05Head (headT c) = ({ Kind := c.Kind, Group := c.Group, Letter := c.Letter, Colors := [], Period := 0 : Character }, true) := by
  have hk := kind_rng c h
  obtain ⟨g1, g2⟩ := fits_grp c h
  have h40 := (kt_no c.Kind hk).1
  have hkl := kt_len c.Kind hk
  have hjl := joinT_len _ g1 g2
  have hkp : decide (0 < c.Kind) = true := decide_eq_true (by omega)
  have hlen := headT_len c h
  unfold headT at hlen ⊢
  by_cases h8 : c.Kind = 8
  · obtain ⟨f1, f2⟩ := fits_8 c h h8
    rw [if_pos h8] at hlen ⊢
    rw [f1, h8]
    have eH : kt 8 ++ 40 :: (c.Letter ++ [41]) = (kt 8 ++ 40 :: c.Letter) ++ [41] := by simp
    have n1 : lfl (kt 8 ++ 40 :: (c.Letter ++ [41])) = false := by
      rw [eH]; exact lfl_no _ (by simp only [List.length_append, List.length_cons, List.length_nil] at hlen ⊢; omega)
    have hw := par_found (kt 8) c.Letter (by decide) (by omega) 2 0 ((((kt 8 ++ 40 :: (c.Letter ++ [41])).length : Int) - 0).toNat + 1) rfl (by simp only [List.length_append, List.length_cons, List.length_nil]; omega)
    have hks : ∀ s : List UInt8 × Int, loopR (spec_l05Head_b5 (kt 8 ++ 40 :: (c.Letter ++ [41])) (kt 8, s)) (((spec_l05Kinds ).length) - 1) 1 0 = .ok 8 := fun s => kinds_s 8 (by omega) _ (fun i t => rfl)
    unfold spec_l05Head
    rw [lfl_def, n1, b4_eq]
    simp only [cond_false]
    rw [show ((kt 8 ++ 40 :: (c.Letter ++ [41]), ([] : List UInt8), (0 : Int))) = (kt 8 ++ 40 :: (c.Letter ++ [41]), [], ((0 : Nat) : Int)) from rfl, hw]
    simp only [hks]
    rfl
  · have e8 : (c.Kind == 8) = false := by rw [beq_eq_false_iff_ne]; exact h8
    rw [if_neg h8] at hlen ⊢
    by_cases hL : c.Letter = []
    · rw [if_pos hL, List.append_nil] at hlen ⊢
      rw [hL]
      by_cases hg : c.Group = []
      · have eg : grpT c.Group = [] := by rw [hg]; rfl
        rw [eg, List.append_nil, hg]
        have hw := par_none (kt c.Kind) h40 (by omega) (kt c.Kind).length 0 ((((kt c.Kind).length : Int) - 0).toNat + 1) (by omega) (by omega)
        have hks : ∀ s : List UInt8 × Int, loopR (spec_l05Head_b5 (kt c.Kind) (kt c.Kind, s)) (((spec_l05Kinds ).length) - 1) 1 0 = .ok c.Kind := fun s => kinds_s c.Kind hk _ (fun i t => rfl)
        unfold spec_l05Head
        rw [lfl_def, lfl_kt _ hk, b4_eq]
        simp only [cond_false]
        rw [show ((kt c.Kind, ([] : List UInt8), (0 : Int))) = (kt c.Kind, [], ((0 : Nat) : Int)) from rfl, hw]
        simp only [hks, e8, cond_false]
        rw [hkp]; rfl
      · have eg : grpT c.Group = 40 :: (Lib.join (c.Group.map Lib.itoa) [43] ++ [41]) := by unfold grpT; rw [if_neg hg]
        rw [eg] at hlen ⊢
        have hsp : spec_l01Split (Lib.join (c.Group.map Lib.itoa) [43]) 43 = c.Group.map Lib.itoa := by
          rw [show spec_l01Split (Lib.join (c.Group.map Lib.itoa) [43]) 43 = splitC 43 (Lib.join (c.Group.map Lib.itoa) [43]) from spec_l01Split_eq _ 43 (by omega)]
          exact split_grp _ hg g2
        have hJ0 : (Lib.join (c.Group.map Lib.itoa) [43] == []) = false := by
          rw [beq_eq_false_iff_ne]
          intro h0
          have := split_grp _ hg g2
          rw [h0] at this
          cases hgg : c.Group with
          | nil => exact hg hgg
          | cons x r =>
            rw [hgg] at this
            simp only [splitC, List.map_cons, List.cons.injEq] at this
            exact (no32_itoa x).2 this.1.symm
        generalize hJ : Lib.join (c.Group.map Lib.itoa) [43] = J at *
        have eH : kt c.Kind ++ 40 :: (J ++ [41]) = (kt c.Kind ++ 40 :: J) ++ [41] := by simp
        have n1 : lfl (kt c.Kind ++ 40 :: (J ++ [41])) = false := by
          rw [eH]; exact lfl_no _ (by simp only [List.length_append, List.length_cons, List.length_nil] at hlen ⊢; omega)
        have hw := par_found (kt c.Kind) J h40 (by omega) (kt c.Kind).length 0 ((((kt c.Kind ++ 40 :: (J ++ [41])).length : Int) - 0).toNat + 1) (by omega) (by simp only [List.length_append, List.length_cons, List.length_nil]; omega)
        have hks : ∀ s : List UInt8 × Int, loopR (spec_l05Head_b5 (kt c.Kind ++ 40 :: (J ++ [41])) (kt c.Kind, s)) (((spec_l05Kinds ).length) - 1) 1 0 = .ok c.Kind := fun s => kinds_s c.Kind hk _ (fun i t => rfl)
        have hgs : ∀ (p : List UInt8) (q k : Int), loopR (spec_l05Head_b6 (kt c.Kind ++ 40 :: (J ++ [41])) (p, J, q) k) ((c.Group.map Lib.itoa).length - 0) 0 [] = .ok c.Group := fun p q k => grp_s c.Group g2 (fun i t => ({ Kind := k, Group := t, Letter := [], Colors := [], Period := 0 : Character }, false)) _ (fun i t => by unfold spec_l05Head_b6; simp only; rw [hsp])
        unfold spec_l05Head
        rw [lfl_def, n1, b4_eq]
        simp only [cond_false]
        rw [show ((kt c.Kind ++ 40 :: (J ++ [41]), ([] : List UInt8), (0 : Int))) = (kt c.Kind ++ 40 :: (J ++ [41]), [], ((0 : Nat) : Int)) from rfl, hw]
        simp only [hks, e8, cond_false, hJ0, hsp, hgs, hkp]
    · obtain ⟨l1, l2⟩ := fits_L c h h8 hL
      rw [if_neg hL] at hlen ⊢
      have hg : c.Group ≠ [] := by rw [l2]; simp
      have eg : grpT c.Group = 40 :: (Lib.join (c.Group.map Lib.itoa) [43] ++ [41]) := by unfold grpT; rw [if_neg hg]
      rw [eg] at hlen ⊢
      have hsp : spec_l01Split (Lib.join (c.Group.map Lib.itoa) [43]) 43 = c.Group.map Lib.itoa := by
        rw [show spec_l01Split (Lib.join (c.Group.map Lib.itoa) [43]) 43 = splitC 43 (Lib.join (c.Group.map Lib.itoa) [43]) from spec_l01Split_eq _ 43 (by omega)]
        exact split_grp _ hg g2
      have hJ0 : (Lib.join (c.Group.map Lib.itoa) [43] == []) = false := by
        rw [beq_eq_false_iff_ne]
        intro h0
        have := split_grp _ hg g2
        rw [h0, l2] at this
        simp only [splitC, List.map_cons, List.cons.injEq] at this
        exact (no32_itoa 6).2 this.1.symm
      generalize hJ : Lib.join (c.Group.map Lib.itoa) [43] = J at *
      have eH : kt c.Kind ++ (40 :: (J ++ [41]) ++ [43, 76, 70, 108]) = (kt c.Kind ++ 40 :: (J ++ [41])) ++ [43, 76, 70, 108] := by simp
      rw [eH] at hlen ⊢
      rw [l1]
      have hl2 : (kt c.Kind ++ 40 :: (J ++ [41])).length ≤ 1048576 := by rw [List.length_append] at hlen; omega
      obtain ⟨y1, y2⟩ := lfl_yes (kt c.Kind ++ 40 :: (J ++ [41])) (by simp) hl2
      have hw := par_found (kt c.Kind) J h40 hl2 (kt c.Kind).length 0 (((((kt c.Kind ++ 40 :: (J ++ [41])) ++ [43, 76, 70, 108]).length : Int) - 0).toNat + 1) (by omega) (by simp only [List.length_append, List.length_cons, List.length_nil]; omega)
      have hks : ∀ s : List UInt8 × Int, loopR (spec_l05Head_b2 ((kt c.Kind ++ 40 :: (J ++ [41])) ++ [43, 76, 70, 108]) (kt c.Kind, s)) (((spec_l05Kinds ).length) - 1) 1 0 = .ok c.Kind := fun s => kinds_s c.Kind hk _ (fun i t => rfl)
      have hgs : ∀ (p : List UInt8) (q k : Int), loopR (spec_l05Head_b3 ((kt c.Kind ++ 40 :: (J ++ [41])) ++ [43, 76, 70, 108]) (p, J, q) k) ((c.Group.map Lib.itoa).length - 0) 0 [] = .ok c.Group := fun p q k => grp_s c.Group g2 (fun i t => ({ Kind := k, Group := t, Letter := [76], Colors := [], Period := 0 : Character }, false)) _ (fun i t => by unfold spec_l05Head_b3; simp only; rw [hsp])
      unfold spec_l05Head
      rw [lfl_def, y1, y2, b1_eq]
      simp only [cond_true]
      rw [show ((kt c.Kind ++ 40 :: (J ++ [41]), ([] : List UInt8), (0 : Int))) = (kt c.Kind ++ 40 :: (J ++ [41]), [], ((0 : Nat) : Int)) from rfl, hw]
      simp only [hks, e8, cond_false, hJ0, hsp, hgs, hkp]
end Go.Ab

namespace Go.Ab
open Go Go.Proofs
def spec_ReadCharacter (a0 : (List UInt8)) : (Character × Bool) :=
  ({ Kind := ((spec_l05Read a0).1).Kind, Group := ((spec_l05Read a0).1).Group, Letter := ((spec_l05Read a0).1).Letter, Colors := ((spec_l05Read a0).1).Colors, Period := ((spec_l05Read a0).1).Period : Character }, (spec_l05Read a0).2)
namespace N19
theorem DD : DOk Tryz.prog (Go.Ab.DD [(44, dP D_spec_l05Read)]) := DD_cons D_spec_l05Read_ok.e <| DD_nil _
theorem dn : type_of% (@D_spec_l05Read.eq_1) := by and_intros <;> intros <;> rfl
theorem den (a0 : (List UInt8)) (hb0 : a0.length < 1099511627776) (hp0 : a0.length ≤ 1048576) : Den Tryz.prog 19 [.str a0] (.tup [.agg (eCharacterO ((spec_ReadCharacter a0).1)), .bool ((spec_ReadCharacter a0).2)]) := by
  generalize hR : spec_ReadCharacter a0 = r
  unfold spec_ReadCharacter at hR
  refine di Tryz.func19 Tryz.ntmps19 Tryz.results19 ?_
  intro c hL hc hk
  obtain ⟨hL0, _⟩ := hL
  have hw0 : a0.length < 9223372036854775808 := Nat.lt_succ_of_le hL0
  clear hL0
  simp only [pars, Nat.zero_add]
  iterate 2 refine rS ?_
  refine AWP.ret ?_
  subst hR
  exact es
end N19
def D_spec_ReadCharacter : DF
  | [x0] => some (.tup [.agg (eCharacterO ((spec_ReadCharacter (rdS x0)).1)), .bool ((spec_ReadCharacter (rdS x0)).2)], false, [wS x0, (rdS x0).length < 1099511627776, (rdS x0).length ≤ 1048576])
  | _ => none
def Dz_spec_ReadCharacter : DF
  | [x0] => some (.tup [.agg (eCharacterO ((spec_ReadCharacter (rdS x0)).1)), .bool ((spec_ReadCharacter (rdS x0)).2)], true, [wS x0, (rdS x0).length < 1099511627776, (rdS x0).length ≤ 1048576])
  | _ => none
theorem D_spec_ReadCharacter_ok : OkD Tryz.prog 19 D_spec_ReadCharacter := by unfold D_spec_ReadCharacter; exact dk N19.den
theorem Dz_spec_ReadCharacter_ok : OkD Tryz.prog 19 Dz_spec_ReadCharacter := by unfold Dz_spec_ReadCharacter; exact dk N19.den
end Go.Ab

namespace Go.Ab
open Go Go.Proofs
theorem secT_inj {n m : Int} (h1 : 0 < n) (h2 : n ≤ 600) (h3 : 0 < m) (h4 : m ≤ 600) (h : secT n = secT m) : n = m := by
  have e1 := sec_read n h1 h2
  rw [h, sec_read m h3 h4] at e1
  exact (congrArg Prod.fst e1).symm
theorem period_w (p : Int) (h1 : 0 < p) (h2 : p ≤ 600) : ∀ (k n : Nat) (i : Int), 1 ≤ i → i + k = p → k < n → loopW (spec_l05Period_b1 (secT p ++ [115])) n i = .error (.inl (p, true))
  | k, 0, i, _, _, h => by omega
  | 0, n + 1, i, hi, he, _ => by
    have e : i = p := by omega
    subst e
    simp only [loopW, spec_l05Period_b1]
    rw [decide_eq_true h2, sec_spec _ (by omega) h2]
    simp
  | k + 1, n + 1, i, hi, he, hn => by
    have hne : (spec_l05Seconds i == secT p ++ [115]) = false := by
      rw [beq_eq_false_iff_ne, sec_spec _ (by omega) (by omega)]
      intro h
      have := secT_inj (by omega) (by omega) h1 h2 (List.append_cancel_right h)
      omega
    have hw : IntKind.wrap .i64 (i + 1) = i + 1 := by rw [IntKind.wrap_i64]; omega
    have := period_w p h1 h2 k n (i + 1) (by omega) (by omega) (by omega)
    simp only [loopW, spec_l05Period_b1]
    rw [decide_eq_true (show i ≤ 600 by omega), hne, hw]
    simp only [cond_true, cond_false]
    exact this
theorem period_read (p : Int) (h1 : 0 < p) (h2 : p ≤ 600) : spec_l05Period (secT p ++ [115]) = (p, true) := by
  unfold spec_l05Period
  rw [period_w p h1 h2 (p - 1).toNat _ 1 (by omega) (by omega) (by omega)]
theorem secT_no (p : Int) (h1 : 0 < p) (h2 : p ≤ 600) : (32 : UInt8) ∉ secT p ++ [115] := by
  intro hm
  rcases List.mem_append.1 hm with hm | hm
  · unfold secT at hm
    split at hm
    · exact itoa_no (by omega) 32 (by decide) hm
    · rcases List.mem_append.1 hm with hm | hm
      · exact itoa_no (by omega) 32 (by decide) hm
      · rcases List.mem_cons.1 hm with hm | hm
        · exact absurd hm (by decide)
        · exact itoa_no (by omega) 32 (by decide) hm
  · rw [List.mem_singleton] at hm; exact absurd hm (by decide)
theorem char_spec (c : Character) (h : impl_ValidCharacter c = true) (hl : c.Colors.length < 9223372036854775808) (ha : (chrT c).length ≤ 1048576) : spec_l05Read (chrT c) = (c, true) := by
  have hf := valid_fits c h
  have hr := head_spec c hf
  have hp := period_nn c h
  have hp2 := (valid_rng c h).2.2
  have hcol := colors_no _ (valid_colors c h hl)
  have hok : spec_l05Ok c = true := by rw [← valid_eq c hl]; exact h
  have htext := text_spec c h
  have hsp : spec_l01Split (chrT c) 32 = splitC 32 (chrT c) := spec_l01Split_eq _ 32 (by omega)
  unfold spec_l05Read
  by_cases h0 : c.Period = 0
  · have e1 : spec_l01Split (chrT c) 32 = [headT c, c.Colors] := by
      rw [hsp]; unfold chrT
      rw [h0, show perT 0 = [] from rfl, List.append_nil, splitC_cons 32 _ _ (head_no c hf), splitC_none 32 _ hcol]
    rw [e1]
    have ec : ({ Kind := c.Kind, Group := c.Group, Letter := c.Letter, Colors := c.Colors, Period := 0 : Character }) = c := by rw [← h0]
    have n2 : ((([headT c, c.Colors] : List (List UInt8)).length : Int) != 2) = false := rfl
    have n3 : ((([headT c, c.Colors] : List (List UInt8)).length : Int) == 3) = false := rfl
    rw [n2, n3]
    simp only [Bool.false_and, cond_false, List.getD_cons_zero, List.getD_cons_succ]
    rw [hr]
    simp only [ec, hok, htext]
    simp
  · have e2 : perT c.Period = 32 :: (secT c.Period ++ [115]) := by unfold perT; rw [if_neg h0]
    have e1 : spec_l01Split (chrT c) 32 = [headT c, c.Colors, secT c.Period ++ [115]] := by
      rw [hsp]; unfold chrT
      rw [e2, splitC_cons 32 _ _ (head_no c hf), splitC_cons 32 _ _ hcol, splitC_none 32 _ (secT_no _ (by omega) hp2)]
    rw [e1]
    have n2 : ((([headT c, c.Colors, secT c.Period ++ [115]] : List (List UInt8)).length : Int) != 3) = false := rfl
    have n3 : ((([headT c, c.Colors, secT c.Period ++ [115]] : List (List UInt8)).length : Int) == 3) = true := rfl
    rw [n2, n3]
    simp only [Bool.and_false, cond_false, cond_true, List.getD_cons_zero, List.getD_cons_succ]
    rw [hr, period_read _ (by omega) hp2]
    have ec : ({ Kind := c.Kind, Group := c.Group, Letter := c.Letter, Colors := c.Colors, Period := c.Period : Character }) = c := rfl
    simp only [ec, hok, htext]
    simp
theorem char_spec_inv (a : List UInt8) : spec_l05Read a = ({ Kind := 0, Group := [], Letter := [], Colors := [], Period := 0 : Character }, false) ∨ ∃ c, spec_l05Ok c = true ∧ spec_l05Text c = a ∧ (∃ i, c.Colors = (spec_l01Split a 32).getD i default) ∧ spec_l05Read a = (c, true) := by
  unfold spec_l05Read
  generalize spec_l01Split a 32 = w
  cases hA : (((w.length : Int) != 2) && ((w.length : Int) != 3)) with
  | true => left; rfl
  | false =>
    simp only [cond_false]
    cases ((w.length : Int) == 3) with
    | true =>
      simp only [cond_true]
      generalize hc : ({ Kind := ((spec_l05Head (w.getD 0 default)).1).Kind, Group := ((spec_l05Head (w.getD 0 default)).1).Group, Letter := ((spec_l05Head (w.getD 0 default)).1).Letter, Colors := (w.getD 1 default), Period := (spec_l05Period (w.getD 2 default)).1 : Character }) = c
      cases hv : spec_l05Ok c with
      | false => left; simp
      | true =>
        by_cases ht : spec_l05Text c = a
        · cases hq : ((spec_l05Head (w.getD 0 default)).2 && (spec_l05Period (w.getD 2 default)).2) with
          | true => right; exact ⟨c, hv, ht, ⟨1, by rw [← hc]⟩, by simp [ht]⟩
          | false => left; simp
        · left
          have : (spec_l05Text c != a) = true := by simpa using ht
          rw [this]; simp
    | false =>
      simp only [cond_false]
      generalize hc : ({ Kind := ((spec_l05Head (w.getD 0 default)).1).Kind, Group := ((spec_l05Head (w.getD 0 default)).1).Group, Letter := ((spec_l05Head (w.getD 0 default)).1).Letter, Colors := (w.getD 1 default), Period := ((spec_l05Head (w.getD 0 default)).1).Period : Character }) = c
      cases hv : spec_l05Ok c with
      | false => left; simp
      | true =>
        by_cases ht : spec_l05Text c = a
        · cases hq : (spec_l05Head (w.getD 0 default)).2 with
          | true => right; exact ⟨c, hv, ht, ⟨1, by rw [← hc]⟩, by simp [ht]⟩
          | false => left; simp
        · left
          have : (spec_l05Text c != a) = true := by simpa using ht
          rw [this]; simp
theorem read_eq (a : List UInt8) (ha : a.length ≤ 1048576) : impl_ReadCharacter a = spec_l05Read a := by
  rcases char_read_inv a with h | ⟨c, hv, ht, hr⟩
  · rcases char_spec_inv a with g | ⟨c, hv, ht, ⟨i, hci⟩, hr⟩
    · rw [h, g]
    · have hl : c.Colors.length < 9223372036854775808 := by
        rw [hci, spec_l01Split_eq a 32 (by omega) |> (fun e => (e : spec_l01Split a 32 = splitC 32 a))]
        rw [List.getD_eq_getElem?_getD]
        cases hg : (splitC 32 a)[i]? with
        | none => show (0 : Nat) < _; omega
        | some x => have := (splitC_len 32 a).2 x (List.mem_of_getElem? hg); simp only [Option.getD_some]; omega
      rw [← valid_eq c hl] at hv
      have hT := text_spec c hv
      rw [hT] at ht
      rw [hr, ← ht, char_read c hv hl]
  · have hT := text_impl c hv
    rw [hT] at ht
    have hl : c.Colors.length < 9223372036854775808 := by
      have : c.Colors.length ≤ (chrT c).length := by unfold chrT; simp only [List.length_append, List.length_cons]; omega
      rw [ht] at this; omega
    rw [hr, ← ht, char_spec c hv hl (by rw [ht]; exact ha)]
end Go.Ab

namespace Go.Ab
open Go Go.Proofs
def impl_isMarkKind (a0 : Int) : Bool :=
  (impl_within a0 1 9)
namespace N56
theorem DD : DOk Tryz.prog (Go.Ab.DD [(68, dP D_impl_within)]) := DD_cons D_impl_within_ok.e <| DD_nil _
theorem dn : type_of% (@D_impl_within.eq_1) := by and_intros <;> intros <;> rfl
theorem ol : type_of% (@impl_within.eq_1) := @impl_within.eq_1
theorem den (a0 : Int)  : Den Tryz.prog 56 [.int .i64 a0] (.bool (impl_isMarkKind a0)) := by
  generalize hR : impl_isMarkKind a0 = r
  unfold impl_isMarkKind at hR
  refine di Tryz.func56 Tryz.ntmps56 Tryz.results56 ?_
  intro c hL hc hk
  clear hL
  simp only [pars, Nat.zero_add]
  iterate 2 refine rS ?_
  refine AWP.ret ?_
  subst hR
  exact es
end N56
def D_impl_isMarkKind : DF
  | [x0] => some (.bool (impl_isMarkKind (rdI x0)), false, [wI .i64 x0])
  | _ => none
theorem D_impl_isMarkKind_ok : OkD Tryz.prog 56 D_impl_isMarkKind := by unfold D_impl_isMarkKind; exact dk N56.den
end Go.Ab

namespace Go.Ab
open Go Go.Proofs
theorem getD_len100 (l : List (List UInt8)) (h : ∀ x ∈ l, x.length ≤ 100) (n : Nat) : (l.getD n default).length ≤ 100 := by
  rw [List.getD_eq_getElem?_getD]
  cases hg : l[n]? with
  | none => show (0 : Nat) ≤ 100; omega
  | some x => exact h x (List.mem_of_getElem? hg)
theorem pick_len (k : Int) (l : List (List UInt8)) (h : ∀ x ∈ l, x.length ≤ 100) : (impl_pick k l).length ≤ 100 := by
  unfold impl_pick
  simp only [Bool.cond_eq_ite]
  split
  · simp
  · exact getD_len100 l h _
end Go.Ab

namespace Go.Ab
open Go Go.Proofs
def impl_StandardLight (a0 : Int) : (Character × Int) :=
  (bif (!(impl_isMarkKind a0)) then ({ Kind := 0, Group := [], Letter := [], Colors := [], Period := 0 : Character }, 2) else ({ Kind := ((impl_ReadCharacter (impl_pick a0 ([[], [70, 108, 32, 82, 32, 52, 115], [70, 108, 32, 71, 32, 52, 115], [81, 32, 87], [81, 40, 51, 41, 32, 87, 32, 49, 48, 115], [81, 40, 54, 41, 43, 76, 70, 108, 32, 87, 32, 49, 53, 115], [81, 40, 57, 41, 32, 87, 32, 49, 53, 115], [70, 108, 40, 50, 41, 32, 87, 32, 53, 115], [76, 70, 108, 32, 87, 32, 49, 48, 115], [70, 108, 32, 89, 32, 53, 115]] : List (List UInt8)))).1).Kind, Group := ((impl_ReadCharacter (impl_pick a0 ([[], [70, 108, 32, 82, 32, 52, 115], [70, 108, 32, 71, 32, 52, 115], [81, 32, 87], [81, 40, 51, 41, 32, 87, 32, 49, 48, 115], [81, 40, 54, 41, 43, 76, 70, 108, 32, 87, 32, 49, 53, 115], [81, 40, 57, 41, 32, 87, 32, 49, 53, 115], [70, 108, 40, 50, 41, 32, 87, 32, 53, 115], [76, 70, 108, 32, 87, 32, 49, 48, 115], [70, 108, 32, 89, 32, 53, 115]] : List (List UInt8)))).1).Group, Letter := ((impl_ReadCharacter (impl_pick a0 ([[], [70, 108, 32, 82, 32, 52, 115], [70, 108, 32, 71, 32, 52, 115], [81, 32, 87], [81, 40, 51, 41, 32, 87, 32, 49, 48, 115], [81, 40, 54, 41, 43, 76, 70, 108, 32, 87, 32, 49, 53, 115], [81, 40, 57, 41, 32, 87, 32, 49, 53, 115], [70, 108, 40, 50, 41, 32, 87, 32, 53, 115], [76, 70, 108, 32, 87, 32, 49, 48, 115], [70, 108, 32, 89, 32, 53, 115]] : List (List UInt8)))).1).Letter, Colors := ((impl_ReadCharacter (impl_pick a0 ([[], [70, 108, 32, 82, 32, 52, 115], [70, 108, 32, 71, 32, 52, 115], [81, 32, 87], [81, 40, 51, 41, 32, 87, 32, 49, 48, 115], [81, 40, 54, 41, 43, 76, 70, 108, 32, 87, 32, 49, 53, 115], [81, 40, 57, 41, 32, 87, 32, 49, 53, 115], [70, 108, 40, 50, 41, 32, 87, 32, 53, 115], [76, 70, 108, 32, 87, 32, 49, 48, 115], [70, 108, 32, 89, 32, 53, 115]] : List (List UInt8)))).1).Colors, Period := ((impl_ReadCharacter (impl_pick a0 ([[], [70, 108, 32, 82, 32, 52, 115], [70, 108, 32, 71, 32, 52, 115], [81, 32, 87], [81, 40, 51, 41, 32, 87, 32, 49, 48, 115], [81, 40, 54, 41, 43, 76, 70, 108, 32, 87, 32, 49, 53, 115], [81, 40, 57, 41, 32, 87, 32, 49, 53, 115], [70, 108, 40, 50, 41, 32, 87, 32, 53, 115], [76, 70, 108, 32, 87, 32, 49, 48, 115], [70, 108, 32, 89, 32, 53, 115]] : List (List UInt8)))).1).Period : Character }, 0))
namespace N25
theorem DD : DOk Tryz.prog (Go.Ab.DD [(20, dP D_impl_ReadCharacter), (56, dP D_impl_isMarkKind), (57, dP D_impl_pick)]) := DD_cons D_impl_ReadCharacter_ok.e <| DD_cons D_impl_isMarkKind_ok.e <| DD_cons D_impl_pick_ok.e <| DD_nil _
theorem dn : type_of% (And.intro @D_impl_ReadCharacter.eq_1 <| And.intro @D_impl_isMarkKind.eq_1 <| @D_impl_pick.eq_1) := by and_intros <;> intros <;> rfl
theorem o0 {p : Prop} (h : p := by (first | (and_intros <;> first | omega | (simp only [ln] at *; omega))); first | done | fail) : p := h
theorem lx {p : Prop} (h : p := by (exact lxx); first | done | fail) : p := h
theorem den (a0 : Int)  : Den Tryz.prog 25 [.int .i64 a0] (.tup [.agg (eCharacterO ((impl_StandardLight a0).1)), .int .i64 ((impl_StandardLight a0).2)]) := by
  generalize hR : impl_StandardLight a0 = r
  unfold impl_StandardLight at hR
  refine di Tryz.func25 Tryz.ntmps25 Tryz.results25 ?_
  intro c hL hc hk
  clear hL
  simp only [pars, Nat.zero_add]
  have hpk : (impl_pick a0 ([[], [70, 108, 32, 82, 32, 52, 115], [70, 108, 32, 71, 32, 52, 115], [81, 32, 87], [81, 40, 51, 41, 32, 87, 32, 49, 48, 115], [81, 40, 54, 41, 43, 76, 70, 108, 32, 87, 32, 49, 53, 115], [81, 40, 57, 41, 32, 87, 32, 49, 53, 115], [70, 108, 40, 50, 41, 32, 87, 32, 53, 115], [76, 70, 108, 32, 87, 32, 49, 48, 115], [70, 108, 32, 89, 32, 53, 115]] : List (List UInt8))).length ≤ 100 := pick_len a0 _ (by decide)
  have hsl : subL ([[], [70, 108, 32, 82, 32, 52, 115], [70, 108, 32, 71, 32, 52, 115], [81, 32, 87], [81, 40, 51, 41, 32, 87, 32, 49, 48, 115], [81, 40, 54, 41, 43, 76, 70, 108, 32, 87, 32, 49, 53, 115], [81, 40, 57, 41, 32, 87, 32, 49, 53, 115], [70, 108, 40, 50, 41, 32, 87, 32, 53, 115], [76, 70, 108, 32, 87, 32, 49, 48, 115], [70, 108, 32, 89, 32, 53, 115]] : List (List UInt8)) 0 10 = ([[], [70, 108, 32, 82, 32, 52, 115], [70, 108, 32, 71, 32, 52, 115], [81, 32, 87], [81, 40, 51, 41, 32, 87, 32, 49, 48, 115], [81, 40, 54, 41, 43, 76, 70, 108, 32, 87, 32, 49, 53, 115], [81, 40, 57, 41, 32, 87, 32, 49, 53, 115], [70, 108, 40, 50, 41, 32, 87, 32, 53, 115], [76, 70, 108, 32, 87, 32, 49, 48, 115], [70, 108, 32, 89, 32, 53, 115]] : List (List UInt8)) := rfl
  have hps : (impl_pick a0 (subL ([[], [70, 108, 32, 82, 32, 52, 115], [70, 108, 32, 71, 32, 52, 115], [81, 32, 87], [81, 40, 51, 41, 32, 87, 32, 49, 48, 115], [81, 40, 54, 41, 43, 76, 70, 108, 32, 87, 32, 49, 53, 115], [81, 40, 57, 41, 32, 87, 32, 49, 53, 115], [70, 108, 40, 50, 41, 32, 87, 32, 53, 115], [76, 70, 108, 32, 87, 32, 49, 48, 115], [70, 108, 32, 89, 32, 53, 115]] : List (List UInt8)) 0 10)).length ≤ 100 := pick_len a0 _ (by decide)
  iterate 2 refine rS ?_
  refine AWP.cond rfl (fun hb => ?_) (fun hb => ?_)
  · replace hR := ct hR
    refine rS ?_
    refine AWP.ret ?_
    subst hR
    exact es
  · replace hR := cf hR
    iterate 2 refine rS ?_
    refine AWP.ret ?_
    subst hR
    exact es
end N25
def D_impl_StandardLight : DF
  | [x0] => some (.tup [.agg (eCharacterO ((impl_StandardLight (rdI x0)).1)), .int .i64 ((impl_StandardLight (rdI x0)).2)], false, [wI .i64 x0])
  | _ => none
def Dz_impl_StandardLight : DF
  | [x0] => some (.tup [.agg (eCharacterO ((impl_StandardLight (rdI x0)).1)), .int .i64 ((impl_StandardLight (rdI x0)).2)], true, [wI .i64 x0])
  | _ => none
theorem D_impl_StandardLight_ok : OkD Tryz.prog 25 D_impl_StandardLight := by unfold D_impl_StandardLight; exact dk N25.den
theorem Dz_impl_StandardLight_ok : OkD Tryz.prog 25 Dz_impl_StandardLight := by unfold Dz_impl_StandardLight; exact dk N25.den
end Go.Ab

namespace Go.Ab
open Go Go.Proofs
theorem readC_grp (a : List UInt8) : (impl_ReadCharacter a).1.Group.length ≤ 4 := by
  rcases char_read_inv a with h | ⟨c, hv, _, hr⟩
  · rw [h]; simp
  · rw [hr]; exact (valid_rng c hv).1
theorem light_grp (k : Int) : (impl_StandardLight k).1.Group.length ≤ 4 := by
  unfold impl_StandardLight
  cases (!(impl_isMarkKind k)) with
  | true => simp
  | false => exact readC_grp _
end Go.Ab

namespace Go.Ab
open Go Go.Proofs
def laws_markInt64S_b1 (a0 : (List Int)) (a1 : Int) (i1 : Nat) (s1 : Int × List Int) : Except (Int × (List Int)) (Int × List Int) :=
  .ok (IntKind.wrap .i64 (s1.1 + 1), s1.2.set i1 s1.1)
def laws_markInt64S (a0 : (List Int)) (a1 : Int) : Int × (List Int) :=
  (match loopR (laws_markInt64S_b1 a0 a1) (a0.length - 0) 0 (a1, a0) with | .error e => e | .ok s1 => (s1.1, s1.2))
namespace N52
theorem DD : DOk Tryz.prog (Go.Ab.DD []) := DD_nil _
theorem den (a0 : (List Int)) (a1 : Int) (hp0 : 0 ≤ a1) (hp1 : a1 ≤ 1152921504606846976) (hp2 : a0.length < 1099511627776) : DenM Tryz.prog 52 [ownL 2 1 eIi64 a0, .int .i64 a1] (.int .i64 ((laws_markInt64S a0 a1).1)) [(ownL 2 1 eIi64 ((laws_markInt64S a0 a1).2)), .any] := by
  generalize hR : laws_markInt64S a0 a1 = r
  unfold laws_markInt64S at hR
  refine dj (gb := [true, false]) Tryz.func52 Tryz.ntmps52 Tryz.results52 ?_
  intro c hL hc hk
  obtain ⟨hL0, hL1, _⟩ := hL
  have hw0 : a0.length < 9223372036854775808 := Nat.lt_succ_of_le (lens_ownL hL0).1
  clear hL0 hL1
  simp only [adEL, adE, adRL, adR, ownL, encL, sv, List.nil_append, List.append_nil, List.cons_append, List.length_cons, List.length_nil, pars, Nat.zero_add, Nat.reduceAdd] at hk ⊢
  iterate 2 refine rS ?_
  refine AWP.block ?_
  generalize hz1 : loopR (laws_markInt64S_b1 a0 a1) (a0.length - 0) 0 (a1, a0) = z1 at hR
  refine AWP.range (laws_markInt64S_b1 a0 a1) (fun i1 s1 => ⟨[(0, .ref 0 1 0 s1.2.length), (1, .int .i64 s1.1), (5, .int .i64 (i1 : Int))], [.arr 2 1 s1.2.length (fun j => eIi64 (s1.2.getD j default))]⟩) (fun i1 s1 => s1.2.length = a0.length ∧ 0 ≤ s1.1 ∧ s1.1 ≤ a1 + i1) (a0.length) 0 (a1, a0) [0] hz1 ot wt sm ?_
  clear hz1
  intro i1 s1 hi1 hW1 hz1
  refine rS ?_
  refine AWP.cond rfl (fun hb => ?_) (fun hb => ?_)
  · have hlt1 : i1 < a0.length := ot
    rw [loopR_lt hlt1] at hz1; simp only [laws_markInt64S_b1] at hz1
    iterate 3 refine rS ?_
    exact ⟨_, [0], hlt1, wt, hz1, sm⟩
  · obtain rfl : i1 = a0.length := ot
    rw [loopR_ge (Nat.le_refl _)] at hz1; subst hz1; dsimp only at hR
    refine AWP.exit ?_; refine exitTo_here ?_
    refine rS ?_
    refine AWP.ret ?_
    subst hR
    exact es
end N52
def D_laws_markInt64S : List AV → Option (AV × List AV × List Prop)
  | [x0, x1] => some (.int .i64 ((laws_markInt64S (rdL dIi64 x0) (rdI x1)).1), [(ownL 2 1 eIi64 ((laws_markInt64S (rdL dIi64 x0) (rdI x1)).2)), .any], [wO 2 1 eIi64 dIi64 x0, wI .i64 x1, 0 ≤ (rdI x1), (rdI x1) ≤ 1152921504606846976, (rdL dIi64 x0).length < 1099511627776])
  | _ => none
theorem D_laws_markInt64S_ok : OkM Tryz.prog 52 D_laws_markInt64S := by unfold D_laws_markInt64S; exact dm N52.den
end Go.Ab

namespace Go.Ab
open Go Go.Proofs
def laws_heldInt64S_b1 (a0 : (List Int)) (a1 : Int) (i1 : Nat) (s1 : Int) : Except (Int) (Int) :=
  (bif ((a0.getD i1 default) != s1) then .error (-1) else .ok (IntKind.wrap .i64 (s1 + 1)))
def laws_heldInt64S (a0 : (List Int)) (a1 : Int) : Int :=
  (match loopR (laws_heldInt64S_b1 a0 a1) (a0.length - 0) 0 a1 with | .error e => e | .ok s1 => s1)
namespace N53
theorem DD : DOk Tryz.prog (Go.Ab.DD []) := DD_nil _
theorem den (a0 : (List Int)) (a1 : Int) (hp0 : 0 ≤ a1) (hp1 : a1 ≤ 1152921504606846976) (hp2 : a0.length < 1099511627776) : Den Tryz.prog 53 [encL 1 eIi64 a0, .int .i64 a1] (.int .i64 (laws_heldInt64S a0 a1)) := by
  generalize hR : laws_heldInt64S a0 a1 = r
  unfold laws_heldInt64S at hR
  refine di Tryz.func53 Tryz.ntmps53 Tryz.results53 ?_
  intro c hL hc hk
  obtain ⟨hL0, hL1, _⟩ := hL
  have hw0 : a0.length < 9223372036854775808 := Nat.lt_succ_of_le (lens_encL hL0).1
  clear hL0 hL1
  simp only [pars, Nat.zero_add]
  iterate 2 refine rS ?_
  refine AWP.block ?_
  generalize hz1 : loopR (laws_heldInt64S_b1 a0 a1) (a0.length - 0) 0 a1 = z1 at hR
  refine AWP.range (laws_heldInt64S_b1 a0 a1) (fun i1 s1 => ⟨[(0, encL 1 eIi64 a0), (1, .int .i64 s1), (5, .int .i64 (i1 : Int))], []⟩) (fun i1 s1 => 0 ≤ s1 ∧ s1 ≤ a1 + i1) (a0.length) 0 a1 [] hz1 ot wt sm ?_
  clear hz1
  intro i1 s1 hi1 hW1 hz1
  refine rS ?_
  refine AWP.cond rfl (fun hb => ?_) (fun hb => ?_)
  · have hlt1 : i1 < a0.length := ot
    rw [loopR_lt hlt1] at hz1; simp only [laws_heldInt64S_b1] at hz1
    refine rS ?_
    refine AWP.cond rfl (fun hb => ?_) (fun hb => ?_)
    · simp only [hb, cond_true] at hz1
      refine rS ?_
      refine AWP.ret ?_
      subst hz1
      dsimp only at hR
      subst hR
      exact es
    · simp only [hb, cond_false] at hz1
      iterate 2 refine rS ?_
      exact ⟨_, [], hlt1, wt, hz1, sm⟩
  · obtain rfl : i1 = a0.length := ot
    rw [loopR_ge (Nat.le_refl _)] at hz1; subst hz1; dsimp only at hR
    refine AWP.exit ?_; refine exitTo_here ?_
    refine rS ?_
    refine AWP.ret ?_
    subst hR
    exact es
end N53
def D_laws_heldInt64S : DF
  | [x0, x1] => some (.int .i64 (laws_heldInt64S (rdL dIi64 x0) (rdI x1)), false, [wL 1 eIi64 dIi64 x0, wI .i64 x1, 0 ≤ (rdI x1), (rdI x1) ≤ 1152921504606846976, (rdL dIi64 x0).length < 1099511627776])
  | _ => none
theorem D_laws_heldInt64S_ok : OkD Tryz.prog 53 D_laws_heldInt64S := by unfold D_laws_heldInt64S; exact dk N53.den
end Go.Ab

namespace Go.Ab
open Go Go.Proofs
def mkInt64 (v : Int) : Int := v
theorem laws_markInt64S_len (a : List Int) (k : Int) : (laws_markInt64S a k).2.length = a.length := by
  unfold laws_markInt64S
  obtain ⟨t, h1, h2⟩ := loopR_total (b := laws_markInt64S_b1 a k) (fun _ s => s.2.length = a.length) (k := a.length - 0) (i := 0) (s := (k, a)) rfl (by
    intro j u _ _ h
    exact ⟨_, rfl, by simpa using h⟩)
  rw [h1]
  exact h2
theorem laws_markInt64S_sub (a : List Int) (k : Int) : subL (laws_markInt64S a k).2 0 a.length = (laws_markInt64S a k).2 := by
  rw [← laws_markInt64S_len a k]; exact subL_all _
theorem laws_markInt64S_eq (a : List Int) (k : Int) (h0 : 0 ≤ k) (h1 : k + 1 * a.length < 4611686018427387904) : laws_markInt64S a k = (k + 1 * a.length, (List.range a.length).map (fun j : Nat => mkInt64 (k + 1 * j))) := by
  unfold laws_markInt64S
  obtain ⟨t, q1, q2, q3, q4⟩ := loopR_total (b := laws_markInt64S_b1 a k) (fun i s => s.1 = k + 1 * i ∧ s.2.length = a.length ∧ ∀ j, j < i → s.2.getD j default = mkInt64 (k + 1 * j)) (k := a.length - 0) (i := 0) (s := (k, a)) ⟨by simp, rfl, by intro j hj; omega⟩ (by
    intro j u _ hj ⟨h2, h3, h4⟩
    have w1 : ∀ m : Int, 0 ≤ m → m < 4611686018427387904 → IntKind.wrap .i64 (m + 1) = m + 1 := by intro m _ _; rw [IntKind.wrap_i64]; omega
    have w0 : ∀ m : Int, 0 ≤ m → m < 4611686018427387904 → IntKind.wrap .i64 m = m := by intro m _ _; rw [IntKind.wrap_i64]; omega
    refine ⟨_, rfl, ?_, ?_, ?_⟩
    · simp only [h2, IntKind.wrap_i64]; omega
    · simpa using h3
    · intro q hq
      simp only
      rw [lgetD_set]
      by_cases h : q = j
      · subst h
        rw [if_pos ⟨rfl, by omega⟩, h2]
        simp only [mkInt64]
        all_goals (try rw [Int.mk.injEq])
        all_goals (and_intros <;> first | rfl | trivial | (simp only [IntKind.wrap_i64]; omega) | (congr 1; (simp only [IntKind.wrap_i64]; omega)))
      · rw [if_neg (fun hh => h hh.1)]
        exact h4 q (by omega))
  rw [q1]
  simp only [Nat.zero_add, Nat.sub_zero] at q2 q4
  simp only [q2]
  congr 1
  apply getD_ext
  · simpa using q3
  · intro i hi
    rw [q4 i (by omega)]
    simp [List.getD_eq_getElem?_getD]
    rw [List.getElem?_range (by omega)]
    rfl
theorem laws_markInt64S_k (a : List Int) (k : Int) (h0 : 0 ≤ k) (h1 : k ≤ 1152921504606846976) (hl : a.length < 1099511627776) : (laws_markInt64S a k).1 = k + 1 * a.length := by
  rw [laws_markInt64S_eq a k h0 (by omega)]
theorem laws_heldInt64S_mark (a : List Int) (k : Int) (h0 : 0 ≤ k) (hk : k ≤ 1152921504606846976) (h1 : a.length < 1099511627776) : laws_heldInt64S (laws_markInt64S a k).2 k = (laws_markInt64S a k).1 ∧ ¬ (laws_markInt64S a k).1 < 0 := by
  rw [laws_markInt64S_eq a k h0 (by omega)]
  refine ⟨?_, by simp only; omega⟩
  simp only
  unfold laws_heldInt64S
  obtain ⟨t, q1, q2⟩ := loopR_total (b := laws_heldInt64S_b1 ((List.range a.length).map (fun j : Nat => mkInt64 (k + 1 * j))) k) (fun i s => s = k + 1 * (i : Int)) (k := ((List.range a.length).map (fun j : Nat => mkInt64 (k + 1 * j))).length - 0) (i := 0) (s := k) (by simp) (by
    intro j u _ hj h2
    have hj2 : j < a.length := by simpa using hj
    have hg : ((List.range a.length).map (fun j : Nat => mkInt64 (k + 1 * j))).getD j default = mkInt64 (k + 1 * j) := by
      simp [List.getD_eq_getElem?_getD, hj2]
    subst h2
    refine ⟨k + 1 * ((j + 1 : Nat) : Int), ?_, rfl⟩
    have e1 : ∀ m : Int, 0 ≤ m → m < 4611686018427387904 → (m + 9223372036854775808) % 18446744073709551616 - 9223372036854775808 = m := by intro m _ _; omega
    simp only [laws_heldInt64S_b1]
    simp only [hg]
    simp only [mkInt64, IntKind.wrap_i64]
    (repeat rw [e1 _ (by omega) (by omega)])
    simp only [Int.add_assoc, Int.reduceAdd, bne_self_eq_false, cond_false, Except.ok.injEq]
    omega)
  rw [q1]
  simp only [q2]
  simp
end Go.Ab

namespace Go.Ab
open Go Go.Proofs
def laws_markCharacter (a0 : Character) (a1 : Int) : Int × Character :=
  (((laws_markInt64S a0.Group a1).1), { a0 with Group := (laws_markInt64S a0.Group a1).2 })
namespace N22
theorem DD : DOk Tryz.prog (Go.Ab.DD [(52, dM [true, false] D_laws_markInt64S)]) := DD_cons D_laws_markInt64S_ok.e <| DD_nil _
theorem dn : type_of% (And.intro @D_laws_markInt64S.eq_1 <| @laws_markInt64S_sub) := And.intro @D_laws_markInt64S.eq_1 <| @laws_markInt64S_sub
theorem ol : type_of% (@laws_markInt64S_len) := @laws_markInt64S_len
theorem gr {p : Prop} (h : p := by (grind [laws_markInt64S_len]); first | done | fail) : p := h
theorem den (a0 : Character) (a1 : Int) (hp0 : 0 ≤ a1) (hp1 : a1 ≤ 1152921504606846976) (hp2 : a0.Group.length < 1099511627776) : DenM Tryz.prog 22 [.agg (eCharacterO a0), .int .i64 a1] (.int .i64 ((laws_markCharacter a0 a1).1)) [(.agg [.any, (ownL 2 1 eIi64 (((laws_markCharacter a0 a1).2).Group)), .any, .any, .any]), .any] := by
  generalize hR : laws_markCharacter a0 a1 = r
  unfold laws_markCharacter at hR
  refine dj (gb := [true, false]) Tryz.func22 Tryz.ntmps22 Tryz.results22 ?_
  intro c hL hc hk
  obtain ⟨hL0, hL1, _⟩ := hL
  have hw0 : bwCharacter a0 := Character_lensO a0 hL0
  clear hL0 hL1
  simp only [adEL, adE, adRL, adR, ownL, encL, sv, List.nil_append, List.append_nil, List.cons_append, List.length_cons, List.length_nil, pars, Nat.zero_add, Nat.reduceAdd] at hk ⊢
  iterate 3 refine rS ?_
  refine AWP.ret ?_
  subst hR
  exact es
end N22
def D_laws_markCharacter : List AV → Option (AV × List AV × List Prop)
  | [x0, x1] => some (.int .i64 ((laws_markCharacter (rdG dCharacter x0) (rdI x1)).1), [(.agg [.any, (ownL 2 1 eIi64 (((laws_markCharacter (rdG dCharacter x0) (rdI x1)).2).Group)), .any, .any, .any]), .any], [wGO eCharacterO dCharacter x0, wI .i64 x1, 0 ≤ (rdI x1), (rdI x1) ≤ 1152921504606846976, (rdG dCharacter x0).Group.length < 1099511627776])
  | _ => none
theorem D_laws_markCharacter_ok : OkM Tryz.prog 22 D_laws_markCharacter := by unfold D_laws_markCharacter; exact dm N22.den
end Go.Ab

namespace Go.Ab
open Go Go.Proofs
def laws_heldCharacter (a0 : Character) (a1 : Int) : Int :=
  (bif decide ((laws_heldInt64S a0.Group a1) < 0) then (-1) else (laws_heldInt64S a0.Group a1))
namespace N23
theorem DD : DOk Tryz.prog (Go.Ab.DD [(53, dP D_laws_heldInt64S)]) := DD_cons D_laws_heldInt64S_ok.e <| DD_nil _
theorem dn : type_of% (And.intro @D_laws_heldInt64S.eq_1 <| @laws_markInt64S_sub) := And.intro @D_laws_heldInt64S.eq_1 <| @laws_markInt64S_sub
theorem ol : type_of% (@laws_markInt64S_len) := @laws_markInt64S_len
theorem gr {p : Prop} (h : p := by (grind [laws_markInt64S_len]); first | done | fail) : p := h
theorem den (a0 : Character) (a1 : Int) (hp0 : 0 ≤ a1) (hp1 : a1 ≤ 1152921504606846976) (hp2 : a0.Group.length < 1099511627776) : Den Tryz.prog 23 [.agg (eCharacter a0), .int .i64 a1] (.int .i64 (laws_heldCharacter a0 a1)) := by
  generalize hR : laws_heldCharacter a0 a1 = r
  unfold laws_heldCharacter at hR
  refine di Tryz.func23 Tryz.ntmps23 Tryz.results23 ?_
  intro c hL hc hk
  obtain ⟨hL0, hL1, _⟩ := hL
  have hw0 : bwCharacter a0 := Character_lens a0 hL0
  clear hL0 hL1
  simp only [pars, Nat.zero_add]
  iterate 3 refine rS ?_
  refine AWP.cond rfl (fun hb => ?_) (fun hb => ?_)
  · replace hR := ct hR
    refine rS ?_
    refine AWP.ret ?_
    subst hR
    exact es
  · replace hR := cf hR
    refine rS ?_
    refine AWP.ret ?_
    subst hR
    exact es
end N23
def D_laws_heldCharacter : DF
  | [x0, x1] => some (.int .i64 (laws_heldCharacter (rdG dCharacter x0) (rdI x1)), false, [wG eCharacter dCharacter x0, wI .i64 x1, 0 ≤ (rdI x1), (rdI x1) ≤ 1152921504606846976, (rdG dCharacter x0).Group.length < 1099511627776])
  | _ => none
theorem D_laws_heldCharacter_ok : OkD Tryz.prog 23 D_laws_heldCharacter := by unfold D_laws_heldCharacter; exact dk N23.den
end Go.Ab

namespace Go.Ab
open Go Go.Proofs
theorem laws_markCharacter_k (a : Character) (k : Int) (h0 : 0 ≤ k) (h1 : k ≤ 1073741824) (b1 : a.Group.length < 1099511627776) : (laws_markCharacter a k).1 = k + 1 * a.Group.length := by
  unfold laws_markCharacter
  simp only
  rw [laws_markInt64S_k _ _ (by omega) (by omega) b1]
theorem laws_markCharacter_len (a : Character) (k : Int) : (laws_markCharacter a k).2.Group.length = a.Group.length := by
  unfold laws_markCharacter
  simp only [laws_markInt64S_len]
theorem laws_markCharacter_sub (a : Character) (k : Int) : subL (laws_markCharacter a k).2.Group 0 a.Group.length = (laws_markCharacter a k).2.Group := by
  rw [← laws_markCharacter_len a k]; exact subL_all _
theorem laws_heldCharacter_mark (a : Character) (k : Int) (h0 : 0 ≤ k) (h1 : k ≤ 1073741824) (b1 : a.Group.length < 1099511627776) : laws_heldCharacter (laws_markCharacter a k).2 k = (laws_markCharacter a k).1 ∧ ¬ (laws_markCharacter a k).1 < 0 := by
  have hk := laws_markCharacter_k a k h0 h1 b1
  refine ⟨?_, by omega⟩
  rw [hk]
  have e1 := laws_heldInt64S_mark a.Group k h0 (by omega) b1
  have e3 := laws_markInt64S_k a.Group k h0 (by omega) b1
  unfold laws_heldCharacter laws_markCharacter
  simp only [e1.1]
  rw [decide_eq_false e1.2]
  simp only [cond_false]
  omega
end Go.Ab
