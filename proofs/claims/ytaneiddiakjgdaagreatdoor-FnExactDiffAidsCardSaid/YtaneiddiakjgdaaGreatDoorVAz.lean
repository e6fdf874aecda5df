/- A part of a proof: walks of functions and lemmas of our own. No conditions. -/
import Derived.Test.YtaneiddiakjgdaaGreatDoorVAi
import Derived.Test.YtaneiddiakjgdaaGreatDoorVAr
import Derived.Test.YtaneiddiakjgdaaGreatDoorVAv
import Derived.Test.YtaneiddiakjgdaaGreatDoorVAo
import Derived.Test.YtaneiddiakjgdaaGreatDoorVAl
import Derived.Test.YtaneiddiakjgdaaGreatDoorVAs
import Derived.Test.YtaneiddiakjgdaaGreatDoorVAw
set_option linter.unusedSectionVars false
set_option linter.unusedVariables false
set_option linter.unusedSimpArgs false
set_option maxHeartbeats 1000000
namespace Go.Ab
open Go Go.Proofs
theorem loopF_iff {b : Nat → Unit → Except Bool Unit} {n : Nat} {p : Nat → Bool} {x : Bool} (hb : ∀ j u, j < n → b j u = bif p j then .error false else .ok ()) :
  ((match loopR b (n - 0) 0 () with | .error e => e | .ok _ => x) = true) ↔ (∀ j, j < n → p j = false) ∧ x = true := by
 rw [loopR_any (b := b) p false (fun j u _ h => hb j u (by omega))]
 simp only [Nat.sub_zero, Nat.zero_add]
 cases h : (List.range n).any (fun j => p j) with
 | true =>
  simp only [cond_true]
  obtain ⟨j, h1, h2⟩ := List.any_eq_true.1 h
  constructor
  ·intro h; cases h
  ·rintro ⟨h3, _⟩; rw [h3 j (List.mem_range.1 h1)] at h2; cases h2
 | false =>
  simp only [cond_false]
  rw [List.any_eq_false] at h
  exact ⟨fun hx => ⟨fun j hj => by simpa using h j (List.mem_range.2 hj), hx⟩, fun hx => hx.2⟩
theorem isName_iff (a : List UInt8) : zee a = true ↔ a ≠ [] ∧ a.length ≤ 10 ∧ ∀ j, j < a.length → ((97 ≤ (a.getD j 0).toNat ∧ (a.getD j 0).toNat ≤ 122) ∨ (j ≠ 0 ∧ 48 ≤ (a.getD j 0).toNat ∧ (a.getD j 0).toNat ≤ 57)) := by
 unfold zee
 refine (loopF_iff (n := a.length) (p := fun j => _) (fun j u _ => by rfl)).trans ?_
 simp only [zkb, zug, Bool.and_eq_true, bne_iff_ne, decide_eq_true_eq]
 constructor
 ·rintro ⟨h1, h2, h3⟩
  refine ⟨h2, by omega, fun j hj => ?_⟩
  have := h1 j hj
  simp [-List.getD_eq_getElem?_getD] at this
  omega
 ·rintro ⟨h2, h3, h1⟩
  refine ⟨fun j hj => ?_, h2, by omega⟩
  have := h1 j hj
  simp [-List.getD_eq_getElem?_getD]
  omega
theorem l01Name_iff (a : List UInt8) : ztd a = true ↔ a ≠ [] ∧ a.length ≤ 10 ∧ ∀ j, j < a.length → ((97 ≤ (a.getD j 0).toNat ∧ (a.getD j 0).toNat ≤ 122) ∨ (j ≠ 0 ∧ 48 ≤ (a.getD j 0).toNat ∧ (a.getD j 0).toNat ≤ 57)) := by
 unfold ztd
 by_cases hn : a = []
 ·subst hn; simp
 by_cases h10 : 10 < a.length
 ·have : ((a == []) || decide (10 < (a.length : Int))) = true := by simp; right; omega
  rw [this]; simp; omega
 have hp : 0 < a.length := by cases a <;> simp_all
 have : ((a == []) || decide (10 < (a.length : Int))) = false := by simp; exact ⟨hn, by omega⟩
 rw [this]
 by_cases hs : zne ((a.getD 0 0).toNat : Int) = true
 ·rw [hs]
  refine (loopF_iff (n := a.length) (p := fun j => _) (fun j u _ => by rfl)).trans ?_
  simp only [zne, Bool.and_eq_true, decide_eq_true_eq] at hs
  constructor
  ·rintro ⟨h1, _⟩
   refine ⟨hn, by omega, fun j hj => ?_⟩
   have := h1 j hj
   simp [zne, zlg, -List.getD_eq_getElem?_getD] at this
   by_cases hj0 : j = 0
   ·subst hj0; omega
   ·omega
  ·rintro ⟨_, _, h1⟩
   refine ⟨fun j hj => ?_, rfl⟩
   have := h1 j hj
   simp [zne, zlg, -List.getD_eq_getElem?_getD]
   omega
 ·have hs' : zne ((a.getD 0 0).toNat : Int) = false := by simpa using hs
  rw [hs']
  simp only [Bool.not_false, Bool.or_true, cond_true]
  constructor
  ·intro h; cases h
  ·rintro ⟨_, _, h1⟩
   have := h1 0 hp
   exfalso
   apply hs
   simp [zne, -List.getD_eq_getElem?_getD]
   simp [-List.getD_eq_getElem?_getD] at this
   omega
theorem name_eq (a : List UInt8) : zee a = ztd a := Bool.eq_iff_iff.2 ((isName_iff a).trans (l01Name_iff a).symm)
end Go.Ab

namespace Go.Ab
open Go Go.Proofs
theorem loopR_sim {ρ σ τ : Type} {b1 : Nat → σ → Except ρ σ} {b2 : Nat → τ → Except ρ τ} (R : Nat → σ → τ → Prop) : ∀ {k i : Nat} {s : σ} {t : τ}, R i s t →
  (∀ j u v, i ≤ j → j < i + k → R j u v → (∃ r, b1 j u = .error r ∧ b2 j v = .error r) ∨ ∃ u' v', b1 j u = .ok u' ∧ b2 j v = .ok v' ∧ R (j + 1) u' v') →
  (∃ r, loopR b1 k i s = .error r ∧ loopR b2 k i t = .error r) ∨ ∃ u v, loopR b1 k i s = .ok u ∧ loopR b2 k i t = .ok v ∧ R (i + k) u v
 | 0, i, s, t, h, _ => .inr ⟨s, t, rfl, rfl, h⟩
 | k + 1, i, s, t, h, hb => by
  simp only [loopR]
  rcases hb i s t (Nat.le_refl _) (by omega) h with ⟨r, h1, h2⟩ | ⟨u, v, h1, h2, h3⟩
  ·rw [h1, h2]; exact .inl ⟨r, rfl, rfl⟩
  ·rw [h1, h2]
   have := loopR_sim R (k := k) (i := i + 1) h3 (fun j u v q1 q2 q3 => hb j u v (by omega) (by omega) q3)
   rwa [show i + 1 + k = i + (k + 1) by omega] at this
theorem loopL_all {α σ ρ : Type} (p : α → Bool) (f : σ → α → σ) (r : ρ) : ∀ (l : List α) (s : σ), loopL (fun x s => (bif !(p x) then .error r else .ok (f s x) : Except ρ σ)) l s = bif l.all p then .ok (l.foldl f s) else .error r
 | [], s => by simp [loopL]
 | x :: l, s => by
  rw [loopL_cons]
  cases hx : p x with
  | false => simp [hx]
  | true =>
   simp only [Bool.not_true, cond_false, List.all_cons, hx, Bool.true_and, List.foldl_cons]
   exact loopL_all p f r l (f s x)
def GrpOk (g : List Int) : Prop := g.length ≤ 4 ∧ (∀ v ∈ g, 1 ≤ v ∧ v ≤ 9) ∧ g.sum ≤ 12 ∧ g ≠ [1]
theorem within_all (g : List Int) : g.all (fun v => zd v 1 9) = true ↔ ∀ v ∈ g, 1 ≤ v ∧ v ≤ 9 := by
 rw [List.all_eq_true]
 exact ⟨fun h v hv => by simpa [zd] using h v hv, fun h v hv => by simpa [zd] using h v hv⟩
theorem wsum (g : List Int) (h : g.length ≤ 4) (hv : ∀ v ∈ g, 1 ≤ v ∧ v ≤ 9) : g.foldl (fun s x => IntKind.wrap .i64 (s + x)) 0 = g.sum := by
 have hw : ∀ n : Int, -1000 ≤ n → n ≤ 1000 → IntKind.wrap .i64 n = n := fun n _ _ => by rw [IntKind.wrap_i64]; omega
 match g, h, hv with
 | [], _, _ => rfl
 | [a], _, hv =>
  have := hv a (by simp)
  simp only [List.foldl_cons, List.foldl_nil, List.sum_cons, List.sum_nil]
  rw [hw _ (by omega) (by omega)]; omega
 | [a, b], _, hv =>
  have := hv a (by simp); have := hv b (by simp)
  simp only [List.foldl_cons, List.foldl_nil, List.sum_cons, List.sum_nil]
  rw [hw (0 + a) (by omega) (by omega), hw _ (by omega) (by omega)]; omega
 | [a, b, c], _, hv =>
  have := hv a (by simp); have := hv b (by simp); have := hv c (by simp)
  simp only [List.foldl_cons, List.foldl_nil, List.sum_cons, List.sum_nil]
  rw [hw (0 + a) (by omega) (by omega), hw (0 + a + b) (by omega) (by omega), hw _ (by omega) (by omega)]; omega
 | [a, b, c, d], _, hv =>
  have := hv a (by simp); have := hv b (by simp); have := hv c (by simp); have := hv d (by simp)
  simp only [List.foldl_cons, List.foldl_nil, List.sum_cons, List.sum_nil]
  rw [hw (0 + a) (by omega) (by omega), hw (0 + a + b) (by omega) (by omega), hw (0 + a + b + c) (by omega) (by omega), hw _ (by omega) (by omega)]; omega
theorem ne_dec (x y : Int) : (x != y) = !decide (x = y) := by by_cases h : x = y <;> simp [h]
theorem equal_dec (a b : List Int) : zic a b = decide (a = b) := by
 unfold zic
 by_cases hl : a.length = b.length
 ·have h1 : ((a.length : Int) != (b.length : Int)) = false := by rw [hl]; simp
  rw [h1]
  simp only [cond_false]
  rw [loopR_any (b := zic_b1 a b) (fun j => !decide (a.getD j default = b.getD j default)) false (fun j u _ _ => by
   simp only [zic_b1, ne_dec])]
  simp only [Nat.sub_zero, Nat.zero_add]
  rw [any_ne a b hl]
  by_cases h : a = b <;> simp [h]
 ·have h1 : ((a.length : Int) != (b.length : Int)) = true := by simp; omega
  rw [h1]
  have : ¬ a = b := fun h => hl (by rw [h])
  simp [this]
theorem isGroup_iff (g : List Int) : zjd g = true ↔ GrpOk g := by
 unfold zjd
 rw [loopR_list0 (b := zjd_b1 g) (fun (x : Int) (s : Int) => (bif !(zd x 1 9) then .error false else .ok (IntKind.wrap .i64 (s + x)) : Except Bool Int)) g 0 (fun j u _ => rfl), loopL_all (fun x => zd x 1 9) (fun s x => IntKind.wrap .i64 (s + x)) false]
 unfold GrpOk
 cases ha : g.all (fun x => zd x 1 9) with
 | false =>
  simp only [cond_false]
  constructor
  ·intro h; cases h
  ·rintro ⟨_, h, _⟩
   rw [(within_all g).2 h] at ha; cases ha
 | true =>
  have hv := (within_all g).1 ha
  simp only [cond_true, equal_dec, zkb, Bool.and_eq_true, decide_eq_true_eq, Bool.not_eq_true', decide_eq_false_iff_not]
  constructor
  ·rintro ⟨⟨h1, h2⟩, h3⟩
   rw [wsum g (by omega) hv] at h2
   exact ⟨by omega, hv, h2, h3⟩
  ·rintro ⟨h1, _, h2, h3⟩
   rw [wsum g h1 hv]
   exact ⟨⟨by omega, h2⟩, h3⟩
theorem l05Group_iff (g : List Int) : zcd g = true ↔ GrpOk g := by
 unfold zcd
 rw [loopR_list0 (b := zcd_b1 g) (fun (x : Int) (s : Unit) => (bif !(zd x 1 9) then .error false else .ok () : Except Bool Unit)) g () (fun j u _ => rfl), loopL_all (fun x => zd x 1 9) (fun (s : Unit) x => ()) false]
 unfold GrpOk
 cases ha : g.all (fun x => zd x 1 9) with
 | false =>
  simp only [cond_false]
  constructor
  ·intro h; cases h
  ·rintro ⟨_, h, _⟩
   rw [(within_all g).2 h] at ha; cases ha
 | true =>
  have hv := (within_all g).1 ha
  have hsum : g.length ≤ 4 → (zie g ≤ 12 ↔ g.sum ≤ 12) := by
   intro h4
   unfold zie
   cases g with
   | nil => simp
   | cons x t =>
    have h0 : (((x :: t).length : Int) == 0) = false := by rw [beq_eq_false_iff_ne]; simp only [List.length_cons]; omega
    rw [h0]
    simp only [cond_false]
    rw [loopR_list0 (b := zie_b1 (x :: t)) (fun (y : Int) (s : Int) => (bif !((fun _ => true) y) then .error 0 else .ok (IntKind.wrap .i64 (s + y)) : Except Int Int)) (x :: t) 0 (fun j u _ => rfl), loopL_all (fun _ => true) (fun s x => IntKind.wrap .i64 (s + x)) 0]
    rw [show (x :: t).all (fun _ => true) = true by simp]
    simp only [cond_true]
    rw [wsum _ h4 hv]
  have hone : (!(((g.length : Int) == 1) && (g.getD 0 default == 1))) = true ↔ g ≠ [1] := by
   match g with
   | [] => simp
   | [a] => simp
   | a :: b :: t =>
    have : ((((a :: b :: t).length : Int)) == 1) = false := by rw [beq_eq_false_iff_ne]; simp only [List.length_cons]; omega
    rw [this]; simp
  simp only [cond_true]
  rw [Bool.and_eq_true, Bool.and_eq_true, hone, decide_eq_true_eq, decide_eq_true_eq]
  constructor
  ·rintro ⟨⟨h1, h2⟩, h3⟩
   exact ⟨by omega, hv, (hsum (by omega)).1 h3, h2⟩
  ·rintro ⟨h1, _, h2, h3⟩
   exact ⟨⟨by omega, h3⟩, (hsum h1).2 h2⟩
end Go.Ab

namespace Go.Ab
open Go Go.Proofs
set_option maxRecDepth 10000 in
theorem rank_all : ∀ n : Fin 256, zye (n.val : Int) = zoe [87, 82, 71, 89] (n.val : Int) + 1 ∧ -1 ≤ zoe [87, 82, 71, 89] (n.val : Int) := by decide
theorem rank_ix (b : UInt8) : zye (b.toNat : Int) = zoe [87, 82, 71, 89] (b.toNat : Int) + 1 ∧ -1 ≤ zoe [87, 82, 71, 89] (b.toNat : Int) :=
 rank_all ⟨b.toNat, b.toNat_lt⟩
theorem colors_eq (s : List UInt8) (hl : s.length < 9223372036854775808) : zbd s = zud s := by
 unfold zbd zud
 have hs := loopR_sim (b1 := zbd_b1 s) (b2 := zud_b1 s) (fun i (x : Int) (_ : Unit) => if i = 0 then x = -1 else x + 1 = zye ((s.getD (i - 1) 0).toNat : Int) ∧ 0 ≤ x) (k := s.length - 0) (i := 0) (s := -1) (t := ()) (by simp) (by
  intro j x u _ hj h
  unfold zbd_b1 zud_b1
  obtain ⟨r1, r2⟩ := rank_ix (s.getD j 0)
  rw [r1]
  generalize zoe [87, 82, 71, 89] ((s.getD j 0).toNat : Int) = p at *
  by_cases h0 : j = 0
  ·subst h0
   rw [if_pos rfl] at h
   subst h
   simp only [Int.natCast_zero, show decide ((0 : Int) < 0) = false from rfl, Bool.false_and, Bool.or_false]
   by_cases hp : p = -1
   ·subst hp; left; exact ⟨false, rfl, rfl⟩
   ·right
    have d1 : decide (p ≤ -1) = false := decide_eq_false (by omega)
    have d2 : (p + 1 == 0) = false := by rw [beq_eq_false_iff_ne]; omega
    rw [d1, d2]
    exact ⟨p, (), rfl, rfl, by rw [if_neg (by omega)]; exact ⟨r1.symm, by omega⟩⟩
  ·rw [if_neg h0] at h
   obtain ⟨h1, h2⟩ := h
   have d3 : decide (0 < (j : Int)) = true := decide_eq_true (by omega)
   have hw : (IntKind.wrap .i64 ((j : Int) - 1)).toNat = j - 1 := by rw [IntKind.wrap_i64]; omega
   rw [d3, hw, ← h1]
   simp only [Bool.true_and]
   by_cases hp : p ≤ x
   ·left
    have d1 : decide (p ≤ x) = true := decide_eq_true hp
    have d2 : (p + 1 == 0 || decide (p + 1 ≤ x + 1)) = true := by
     rw [Bool.or_eq_true, decide_eq_true_eq]; right; omega
    rw [d1, d2]
    exact ⟨false, rfl, rfl⟩
   ·right
    have d1 : decide (p ≤ x) = false := decide_eq_false hp
    have d2 : (p + 1 == 0 || decide (p + 1 ≤ x + 1)) = false := by
     rw [Bool.or_eq_false_iff, beq_eq_false_iff_ne, decide_eq_false_iff_not]; omega
    rw [d1, d2]
    exact ⟨p, (), rfl, rfl, by rw [if_neg (by omega)]; exact ⟨by rw [show j + 1 - 1 = j by omega]; exact r1.symm, by omega⟩⟩)
 rcases hs with ⟨r, h1, h2⟩ | ⟨u, v, h1, h2, _⟩
 ·rw [h1, h2]
 ·rw [h1, h2]
  simp only [zd]
end Go.Ab

namespace Go.Ab
open Go Go.Proofs
theorem one_rng {g : List Int} (h : g.length = 1) (lo hi : Int) (hr : lo ≤ g.getD 0 default ∧ g.getD 0 default ≤ hi) : ∀ v ∈ g, lo ≤ v ∧ v ≤ hi := by
 obtain ⟨x, rfl⟩ := List.length_eq_one_iff.1 h
 intro v hv
 rw [List.mem_singleton] at hv; subst hv
 simpa using hr
theorem nil_rng {g : List Int} (h : (g.length : Int) = 0) : g.length ≤ 4 ∧ ∀ v ∈ g, 1 ≤ v ∧ v ≤ 9 := by
 have : g = [] := List.length_eq_zero_iff.1 (by omega)
 subst this; simp
theorem fits_grp (a : Character) (h : zwc a = true) : a.Group.length ≤ 4 ∧ ∀ v ∈ a.Group, 1 ≤ v ∧ v ≤ 9 := by
  unfold zwc at h
  simp only [Bool.cond_eq_ite] at h
  repeat' split at h
  all_goals (try simp only [Bool.and_eq_true, Bool.or_eq_true, beq_iff_eq, equal_dec, decide_eq_true_eq, zd] at h)
  all_goals first
    | exact nil_rng h.1
    | exact nil_rng h.2
    | (have := (isGroup_iff _).1 h.2; exact ⟨this.1, this.2.1⟩)
    | (rcases h with h | h
       · exact nil_rng h
       · exact ⟨by omega, fun v hv => by have := one_rng (g := a.Group) (by omega) 2 9 h.2 v hv; omega⟩)
    | (rw [h.2]; simp)
    | (cases h)
theorem shape_grp (a : Character) (h : zze a = true) : a.Group.length ≤ 4 ∧ (∀ v ∈ a.Group, 1 ≤ v ∧ v ≤ 9) ∧ (a.Kind = 8 → a.Letter.length = 1 ∧ 65 ≤ (a.Letter.getD 0 0).toNat ∧ (a.Letter.getD 0 0).toNat ≤ 90) := by
 unfold zze at h
 simp only [Bool.cond_eq_ite] at h
 repeat' split at h
 all_goals (try simp only [Bool.and_eq_true, Bool.or_eq_true, beq_iff_eq, decide_eq_true_eq] at *)
 all_goals first
  | (cases h; done)
  | (exact ⟨(nil_rng h.1).1, (nil_rng h.1).2, by intro h8; omega⟩)
  | (exact ⟨by omega, fun v hv => by have := one_rng (g := a.Group) (by omega) 6 6 (by omega) v hv; omega, by intro h8; omega⟩)
  | (have := (l05Group_iff _).1 h.2; exact ⟨this.1, this.2.1, by intro h8; omega⟩)
  | (exact ⟨(nil_rng h.1.1.1).1, (nil_rng h.1.1.1).2, fun _ => ⟨by omega, by omega, by omega⟩⟩)
end Go.Ab

namespace Go.Ab
open Go Go.Proofs
def zeg (a0 : Character) : Bool :=
 (bif ((!(zbd a0.Colors)) || (!(zwc a0))) then false else (bif (zfe a0) then (a0.Period == 0) else ((zd a0.Period (zgg a0) 600) && ((a0.Kind != 3) || ((a0.Period.tmod 2) == 0)))))
namespace N201
theorem DD : DOk Tryz.prog (Go.Ab.DD [(139, dP D_zd), (235, dP D_zbd), (236, dP D_zwc), (237, dP D_zfe), (238, dP D_zgg)]) := DD_cons D_zd_ok.e <| DD_cons D_zbd_ok.e <| DD_cons D_zwc_ok.e <| DD_cons D_zfe_ok.e <| DD_cons D_zgg_ok.e <| DD_nil _
theorem dn : type_of% (And.intro @D_zd.eq_1 <| And.intro @D_zbd.eq_1 <| And.intro @D_zwc.eq_1 <| And.intro @D_zfe.eq_1 <| @D_zgg.eq_1) := by and_intros <;> intros <;> rfl
theorem ol : type_of% (@zd.eq_1) := @zd.eq_1
theorem o0 {p : Prop} (h : p := by (first | (have q9 := ‹(!zbd a0.Colors || !zwc a0) = false›; have h9 := fits_grp a0 (by simp only [Bool.or_eq_false_iff, Bool.not_eq_false'] at q9; exact q9.2); first | exact ⟨hb0, h9.1, fun v hv => (h9.2 v hv).2, fun _ _ => by decide⟩ | exact ⟨hb0, h9.1, fun v hv => (h9.2 v hv).2⟩ | exact h9.1)); first | done | fail) : p := h
theorem den (a0 : Character) (hb0 : bdCharacter a0) : Den Tryz.prog 201 [.agg (eCharacter a0)] (.bool (zeg a0)) := by
 generalize hR : zeg a0 = r
 unfold zeg at hR
 refine di Tryz.func201 Tryz.ntmps201 Tryz.results201 ?_
 intro c hL hc hk
 obtain ⟨hL0, _⟩ := hL
 have hw0 : bwCharacter a0 := Character_lens a0 hL0
 clear hL0
 simp only [pars, Nat.zero_add]
 iterate 2 refine rS ?_
 refine AWP.cond rfl (fun hb => ?_) (fun hb => ?_)
 ·replace hR := ct hR
  refine rS ?_
  refine AWP.ret ?_
  subst hR
  exact es
 ·replace hR := cf hR
  refine rS ?_
  refine AWP.cond rfl (fun hb => ?_) (fun hb => ?_)
  ·replace hR := ct hR
   refine rS ?_
   refine AWP.ret ?_
   subst hR
   exact es
  ·replace hR := cf hR
   refine rD 16 ?_
   refine AWP.ret ?_
   subst hR
   exact es
end N201
def D_zeg : DF
 | [x0] => some (.bool (zeg (rdG dCharacter x0)), false, [wG eCharacter dCharacter x0, bdCharacter (rdG dCharacter x0)])
 | _ => none
theorem D_zeg_ok : OkD Tryz.prog 201 D_zeg := by unfold D_zeg; exact dk N201.den
end Go.Ab

namespace Go.Ab
open Go Go.Proofs
def zrg (a0 : Character) : Bool :=
 (bif (!(zze a0)) then false else (bif (zaf a0) then (a0.Period == 0) else (bif ((a0.Kind == 3) && ((a0.Period.tmod 2) != 0)) then false else (ze a0.Period (zmg a0) 600))))
namespace N152
theorem DD : DOk Tryz.prog (Go.Ab.DD [(137, dP D_ze), (190, dP D_zze), (191, dP D_zaf), (192, dP D_zmg)]) := DD_cons D_ze_ok.e <| DD_cons D_zze_ok.e <| DD_cons D_zaf_ok.e <| DD_cons D_zmg_ok.e <| DD_nil _
theorem dn : type_of% (And.intro @D_ze.eq_1 <| And.intro @D_zze.eq_1 <| And.intro @D_zaf.eq_1 <| @D_zmg.eq_1) := by and_intros <;> intros <;> rfl
theorem ol : type_of% (@ze.eq_1) := @ze.eq_1
theorem o0 {p : Prop} (h : p := by (first | (have q9 := ‹(!zze a0) = false›; have h9 := shape_grp a0 (by simpa using q9); first | exact ⟨hb0, h9.1, fun v hv => (h9.2.1 v hv).2, h9.2.2⟩ | exact ⟨h9.1, fun v hv => (h9.2.1 v hv).2, h9.2.2⟩ | (and_intros <;> first | exact hb0 | exact h9.1 | exact fun v hv => (h9.2.1 v hv).2 | exact h9.2.2 | decide | (intros; decide)))); first | done | fail) : p := h
theorem den (a0 : Character) (hb0 : bdCharacter a0) : Den Tryz.prog 152 [.ep (eCharacter a0)] (.bool (zrg a0)) := by
 generalize hR : zrg a0 = r
 unfold zrg at hR
 refine di Tryz.func152 Tryz.ntmps152 Tryz.results152 ?_
 intro c hL hc hk
 obtain ⟨hL0, _⟩ := hL
 have hw0 : bwCharacter a0 := Character_lens a0 hL0
 clear hL0
 simp only [pars, Nat.zero_add]
 iterate 2 refine rS ?_
 refine AWP.cond rfl (fun hb => ?_) (fun hb => ?_)
 ·replace hR := ct hR
  refine rS ?_
  refine AWP.ret ?_
  subst hR
  exact es
 ·replace hR := cf hR
  refine rS ?_
  refine AWP.cond rfl (fun hb => ?_) (fun hb => ?_)
  ·replace hR := ct hR
   refine rS ?_
   refine AWP.ret ?_
   subst hR
   exact es
  ·replace hR := cf hR
   refine rS ?_
   refine AWP.cond rfl (fun hb => ?_) (fun hb => ?_)
   ·replace hR := ct hR
    refine rS ?_
    refine AWP.ret ?_
    subst hR
    exact es
   ·replace hR := cf hR
    refine rD 6 ?_
    refine AWP.ret ?_
    subst hR
    exact es
end N152
def D_zrg : DF
 | [x0] => some (.bool (zrg (rdP dCharacter x0)), false, [wP eCharacter dCharacter x0, bdCharacter (rdP dCharacter x0)])
 | _ => none
theorem D_zrg_ok : OkD Tryz.prog 152 D_zrg := by unfold D_zrg; exact dk N152.den
end Go.Ab

namespace Go.Ab
open Go Go.Proofs
theorem group_eq (g : List Int) : zjd g = zcd g := Bool.eq_iff_iff.2 ((isGroup_iff g).trans (l05Group_iff g).symm)
theorem signs_ne (a : List UInt8) : (zqb a != []) = decide (a.length = 1 ∧ 65 ≤ (a.getD 0 0).toNat ∧ (a.getD 0 0).toNat ≤ 90) := by
 rw [signs_eq]
 by_cases h : a.length = 1 ∧ 65 ≤ (a.getD 0 0).toNat ∧ (a.getD 0 0).toNat ≤ 90
 ·rw [if_pos h, decide_eq_true h]
  have hlt : (a.getD 0 0).toNat - 65 < codesL.length := by show _ < 26; omega
  rw [List.getD_eq_getElem?_getD, List.getElem?_eq_getElem hlt, Option.getD_some]
  have := (codes_all _ (List.getElem_mem hlt)).1
  rw [bne_iff_ne]
  intro h2; rw [h2] at this; simp at this
 ·rw [if_neg h, decide_eq_false h]; rfl
theorem quick_eq (L : List UInt8) (g : List Int) :
  (bif (L == []) then (((g.length : Int) == 0) || (((g.length : Int) == 1) && (zd (g.getD 0 default) 2 9))) else ((L == [76]) && (zic g [6]))) =
  (bif (L == [76]) then (((g.length : Int) == 1) && ((g.getD 0 default) == 6)) else (((L == []) && decide ((g.length : Int) ≤ 1)) && (zcd g))) := by
 by_cases h1 : L = []
 ·subst h1
  simp only [show (([] : List UInt8) == []) = true from rfl, show (([] : List UInt8) == [76]) = false from rfl, cond_true, cond_false, Bool.true_and]
  apply Bool.eq_iff_iff.2
  rw [Bool.and_eq_true, l05Group_iff, decide_eq_true_eq]
  match g with
  | [] => simp [GrpOk]
  | [x] =>
   have e : ((([x] : List Int).length : Int) == 0) = false := rfl
   have e2 : ((([x] : List Int).length : Int) == 1) = true := rfl
   rw [e, e2]
   simp only [Bool.false_or, Bool.true_and, zd, Bool.and_eq_true, decide_eq_true_eq, List.getD_cons_zero, GrpOk, List.length_singleton, List.mem_singleton, forall_eq, List.sum_cons, List.sum_nil, ne_eq, List.cons.injEq, and_true]
   omega
  | x :: y :: t =>
   have e : (((x :: y :: t).length : Int) == 0) = false := by rw [beq_eq_false_iff_ne]; simp only [List.length_cons]; omega
   have e2 : (((x :: y :: t).length : Int) == 1) = false := by rw [beq_eq_false_iff_ne]; simp only [List.length_cons]; omega
   rw [e, e2]
   simp only [Bool.false_and, Bool.or_self, Bool.false_eq_true, false_iff, List.length_cons]
   omega
 ·have e1 : (L == []) = false := by simpa using h1
  rw [e1]
  by_cases h2 : L = [76]
  ·subst h2
   simp only [BEq.rfl, cond_true, cond_false, Bool.true_and, equal_dec]
   apply Bool.eq_iff_iff.2
   rw [Bool.and_eq_true, decide_eq_true_eq, beq_iff_eq, beq_iff_eq]
   constructor
   ·intro h; subst h; simp
   ·rintro ⟨h3, h4⟩
    obtain ⟨x, rfl⟩ := List.length_eq_one_iff.1 (show g.length = 1 by omega)
    simp only [List.getD_cons_zero] at h4
    rw [h4]
  ·have e2 : (L == [76]) = false := by simpa using h2
   rw [e2]; simp
theorem shape_eq (c : Character) (hl : c.Colors.length < 9223372036854775808) : zze c = (zbd c.Colors && zwc c) := by
 unfold zze zwc zch ze
 rw [colors_eq _ hl, ← quick_eq, group_eq, signs_ne]
 cases zud c.Colors with
 | false => simp
 | true =>
  simp only [Bool.not_true, Bool.or_false, Bool.true_and]
  rcases (show c.Kind = 1 ∨ c.Kind = 2 ∨ c.Kind = 3 ∨ c.Kind = 4 ∨ c.Kind = 5 ∨ c.Kind = 6 ∨ c.Kind = 7 ∨ c.Kind = 8 ∨ (c.Kind < 1 ∨ 8 < c.Kind) by omega) with h | h | h | h | h | h | h | h | h
  ·rw [h]; rfl
  ·rw [h]; rfl
  ·rw [h]; rfl
  ·rw [h]; rfl
  ·rw [h]; rfl
  ·rw [h]; rfl
  ·rw [h]; rfl
  ·rw [h]
   show ((((((c.Group.length : Int) == 0) && ((c.Letter.length : Int) == 1)) && decide (65 ≤ ((c.Letter.getD 0 0).toNat : Int))) && decide (((c.Letter.getD 0 0).toNat : Int) ≤ 90))) = (decide (c.Letter.length = 1 ∧ 65 ≤ (c.Letter.getD 0 0).toNat ∧ (c.Letter.getD 0 0).toNat ≤ 90) && ((c.Group.length : Int) == 0))
   apply Bool.eq_iff_iff.2
   simp only [Bool.and_eq_true, beq_iff_eq, decide_eq_true_eq]
   omega
  ·have e0 : (decide (1 ≤ c.Kind) && decide (c.Kind ≤ 8)) = false := by
    rw [Bool.and_eq_false_iff, decide_eq_false_iff_not, decide_eq_false_iff_not]; omega
   have e : ∀ n : Int, 1 ≤ n → n ≤ 8 → (c.Kind == n) = false := fun n h1 h2 => by rw [beq_eq_false_iff_ne]; omega
   rw [e0, e 1 (by omega) (by omega), e 2 (by omega) (by omega), e 3 (by omega) (by omega), e 4 (by omega) (by omega), e 5 (by omega) (by omega), e 6 (by omega) (by omega), e 7 (by omega) (by omega), e 8 (by omega) (by omega)]
   rfl
theorem sum_eq (l : List Int) : zle l = zse l := rfl
theorem steady_eq (c : Character) : zfe c = zaf c := rfl
theorem letter_eq (c : Character) (h : zwc c = true) (h8 : c.Kind ≠ 8) : (c.Letter != []) = (c.Letter == [76]) := by
 unfold zwc at h
 simp only [Bool.cond_eq_ite] at h
 have e8 : (c.Kind == 8) = false := by rw [beq_eq_false_iff_ne]; exact h8
 repeat' split at h
 all_goals first
  | (rename_i q; rw [e8] at q; cases q; done)
  | (cases h; done)
  | (simp only [Bool.and_eq_true, beq_iff_eq] at h; rw [h.2]; rfl)
  | (simp only [Bool.and_eq_true, beq_iff_eq] at h; rw [h.1]; rfl)
  | (rename_i q; simp only [beq_iff_eq] at q; rw [q]; rfl)
theorem rhythm_eq (k : Int) (h : k = 2 ∨ k = 4 ∨ k = 5 ∨ k = 6 ∨ k = 7 ∨ k = 8) : (zo k).1 = zte k ∧ (zo k).2.1 = zkd k := by
 rcases h with h | h | h | h | h | h <;> subst h <;> exact ⟨rfl, rfl⟩
theorem times_eq (c : Character) (h : zwc c = true) (hk : c.Kind = 2 ∨ c.Kind = 4 ∨ c.Kind = 5 ∨ c.Kind = 6 ∨ c.Kind = 7 ∨ c.Kind = 8) : zn c = zp c := by
 obtain ⟨r1, r2⟩ := rhythm_eq c.Kind hk
 by_cases h8 : c.Kind = 8
 ·have hs : (zqb c.Letter != []) = true := by
   unfold zwc at h
   rw [h8] at h
   have h : (((zqb c.Letter) != []) && ((c.Group.length : Int) == 0)) = true := h
   rw [Bool.and_eq_true] at h
   exact h.1
  rw [signs_ne, decide_eq_true_eq] at hs
  have e1 := signs_eq c.Letter
  rw [if_pos hs] at e1
  have e2 := l05Morse_eq ((c.Letter.getD 0 0).toNat : Int)
  rw [u8_wrap _ (by omega) (by omega), show ((((c.Letter.getD 0 0).toNat : Int) - 65).toNat) = (c.Letter.getD 0 0).toNat - 65 by omega] at e2
  have hd : (default : List UInt8) = [] := rfl
  rw [hd] at e2
  have hall : ∀ x ∈ codesL.getD ((c.Letter.getD 0 0).toNat - 65) [], x = 45 ∨ x = 46 := by
   have hlt : (c.Letter.getD 0 0).toNat - 65 < codesL.length := by show _ < 26; omega
   rw [List.getD_eq_getElem?_getD, List.getElem?_eq_getElem hlt, Option.getD_some]
   exact (codes_all _ (List.getElem_mem hlt)).2.2
  generalize codesL.getD ((c.Letter.getD 0 0).toNat - 65) [] = code at *
  have hb : loopR (zn_b1 c) code.length 0 [] = loopR (zp_b1 c) code.length 0 [] := loopR_same _ _ _ (fun j u _ hj => by
   unfold zn_b1 zp_b1
   rw [e1, e2, r1, r2, h8]
   have hg : (code.map (fun c => if c = 46 then (5 : Int) else 15)).getD j default = if code.getD j 0 = 46 then 5 else 15 := by
    rw [List.getD_eq_getElem?_getD, List.getD_eq_getElem?_getD, List.getElem?_map, List.getElem?_eq_getElem (by omega)]
    rfl
   rw [hg]
   have hm := hall (code.getD j 0) (by rw [List.getD_eq_getElem?_getD, List.getElem?_eq_getElem (by omega), Option.getD_some]; exact List.getElem_mem _)
   generalize code.getD j 0 = x at hm
   rcases hm with hm | hm <;> subst hm <;> rfl)
  unfold zn zp
  rw [h8, e1, e2]
  simp only [List.length_map, Nat.sub_zero]
  rw [hb]
  rfl
 ·have e8 : (c.Kind == 8) = false := by rw [beq_eq_false_iff_ne]; exact h8
  unfold zn zp
  rw [e8, letter_eq c h h8, r2]
  have b3 : zn_b3 c = zp_b3 c := by
   funext i s j t
   unfold zn_b3 zp_b3
   rw [r1, r2]
  have b5 : zn_b5 c = zp_b5 c := by
   funext i s j t
   unfold zn_b5 zp_b5
   rw [r1, r2]
  have b2 : zn_b2 c = zp_b2 c := by
   funext i s
   unfold zn_b2 zp_b2
   rw [b3]
   all_goals rfl
  have b4 : zn_b4 c = zp_b4 c := by
   funext i s
   unfold zn_b4 zp_b4
   rw [b5]
   all_goals rfl
  rw [b2, b4]
  rfl
theorem least_eq (c : Character) (h : zwc c = true) (hs : zfe c = false) : zgg c = zmg c := by
 unfold zgg zmg
 rw [hs, ← steady_eq, hs]
 simp only [cond_false]
 by_cases h3 : c.Kind = 3
 ·rw [h3]; rfl
 ·have e3 : (c.Kind == 3) = false := by rw [beq_eq_false_iff_ne]; exact h3
  rw [e3]
  simp only [cond_false]
  have hk : c.Kind = 2 ∨ c.Kind = 4 ∨ c.Kind = 5 ∨ c.Kind = 6 ∨ c.Kind = 7 ∨ c.Kind = 8 := by
   unfold zwc at h
   unfold zfe at hs
   simp only [Bool.cond_eq_ite] at h
   simp only [Bool.or_eq_false_iff, beq_eq_false_iff_ne] at hs
   repeat' split at h
   all_goals (try simp only [beq_iff_eq] at *)
   all_goals first | omega | (cases h; done)
  rw [times_eq c h hk, sum_eq]
  have hg := (fits_grp c h).1
  have hone : c.Kind = 6 ∨ c.Kind = 7 ∨ c.Kind = 8 → c.Group.length ≤ 1 := by
   intro hq
   unfold zwc at h
   simp only [Bool.cond_eq_ite] at h
   repeat' split at h
   all_goals (try simp only [Bool.and_eq_true, Bool.or_eq_true, beq_iff_eq, equal_dec, decide_eq_true_eq] at *)
   all_goals first | omega | (rcases h with h | h <;> omega) | (rw [h.2]; simp)
  have e1 : ∀ n : Int, IntKind.wrap .i64 n = n ∨ True := fun _ => .inr trivial
  unfold zdh
  rcases hk with hk | hk | hk | hk | hk | hk
  ·rw [hk]
   cases decide (1 < (c.Group.length : Int)) <;> rfl
  ·rw [hk]
   cases decide (1 < (c.Group.length : Int)) <;> rfl
  ·rw [hk]
   cases decide (1 < (c.Group.length : Int)) <;> rfl
  ·have := hone (by omega)
   rw [hk, decide_eq_false (show ¬ 1 < (c.Group.length : Int) by omega)]; rfl
  ·have := hone (by omega)
   rw [hk, decide_eq_false (show ¬ 1 < (c.Group.length : Int) by omega)]; rfl
  ·have := hone (by omega)
   rw [hk, decide_eq_false (show ¬ 1 < (c.Group.length : Int) by omega)]; rfl
theorem valid_eq (c : Character) (hl : c.Colors.length < 9223372036854775808) : zeg c = zrg c := by
 unfold zeg zrg
 rw [shape_eq c hl, ← steady_eq]
 cases h1 : zbd c.Colors with
 | false => rfl
 | true =>
  cases h2 : zwc c with
  | false => rfl
  | true =>
   cases h3 : zfe c with
   | true => rfl
   | false =>
    rw [least_eq c h2 h3]
    simp only [Bool.not_true, Bool.or_self, Bool.and_self, cond_false, zd, ze]
    cases h4 : (c.Kind == 3) with
    | false =>
     have : (c.Kind != 3) = true := by rw [bne, h4]; rfl
     rw [this]; simp
    | true =>
     have : (c.Kind != 3) = false := by rw [bne, h4]; rfl
     rw [this]
     simp only [Bool.false_or, Bool.true_and]
     cases h5 : (c.Period.tmod 2 == 0) with
     | true =>
      have : (c.Period.tmod 2 != 0) = false := by rw [bne, h5]; rfl
      rw [this]; simp
     | false =>
      have : (c.Period.tmod 2 != 0) = true := by rw [bne, h5]; rfl
      rw [this]; simp
end Go.Ab

namespace Go.Ab
open Go Go.Proofs
theorem isColor_eq (c : List UInt8) : zhg c = zog c := by
 unfold zhg zog
 match c with
 | [] => rfl
 | [b] =>
  simp only [List.length_singleton, zmb, List.getD_cons_zero, Go.Lib.indexByte]
  by_cases h1 : b = 87
  ·subst h1; rfl
  by_cases h2 : b = 82
  ·subst h2; rfl
  by_cases h3 : b = 71
  ·subst h3; rfl
  by_cases h4 : b = 89
  ·subst h4; rfl
  have e : ∀ x : UInt8, b ≠ x → ([b] == [x]) = false := by intro x h; simp [h]
  rw [e _ h1, e _ h2, e _ h3, e _ h4]
  have n1 : ¬ (87 : UInt8) = b := fun h => h1 h.symm
  have n2 : ¬ (82 : UInt8) = b := fun h => h2 h.symm
  have n3 : ¬ (71 : UInt8) = b := fun h => h3 h.symm
  have n4 : ¬ (89 : UInt8) = b := fun h => h4 h.symm
  simp [n1, n2, n3, n4]
 | a :: b :: t =>
  have e : ∀ x : UInt8, ((a :: b :: t) == [x]) = false := by intro x; simp
  rw [e, e, e, e]
  have : (((a :: b :: t).length : Int) == 1) = false := by simp; omega
  rw [this]; rfl
theorem sector_eq (s : Sector) : zig s = zje s := by
 unfold zig zje zng
 rw [isColor_eq]
 rfl
theorem tm360 (a : Int) : a.tmod 360 = if 0 ≤ a then a % 360 else -((-a) % 360) := by
 split
 ·rw [Int.tmod_eq_emod_of_nonneg (by omega)]
 ·have e : a = -(-a) := by omega
  rw [e, Int.neg_tmod, Int.tmod_eq_emod_of_nonneg (by omega)]; simp
theorem modulo_eq (a : Int) : zpe a 360 = a % 360 := by
 unfold zpe
 rw [tm360 a]
 have e : IntKind.wrap .i64 ((if 0 ≤ a then a % 360 else -((-a) % 360)) + 360) = (if 0 ≤ a then a % 360 else -((-a) % 360)) + 360 := by
  rw [IntKind.wrap_i64]; split <;> omega
 rw [e, tm360]
 split <;> split <;> omega
def brg (n : Int) : Prop := 0 ≤ n ∧ n ≤ 359
theorem w64 {x : Int} (h1 : -9223372036854775808 ≤ x) (h2 : x ≤ 9223372036854775807) : IntKind.wrap .i64 x = x := by rw [IntKind.wrap_i64]; omega
def arcOf (s : Sector) : Int := (s.To - s.From - 1) % 360 + 1
theorem arc_impl (s : Sector) (h1 : brg s.From) (h2 : brg s.To) : zod s = arcOf s := by
 obtain ⟨a1, a2⟩ := h1; obtain ⟨b1, b2⟩ := h2
 unfold zod arcOf
 rw [w64 (x := s.To - s.From) (by omega) (by omega), w64 (x := s.To - s.From - 1) (by omega) (by omega), modulo_eq, w64 (by omega) (by omega)]
theorem arc_spec (s : Sector) (h1 : brg s.From) (h2 : brg s.To) : zpg s = arcOf s := by
 obtain ⟨a1, a2⟩ := h1; obtain ⟨b1, b2⟩ := h2
 unfold zpg arcOf
 rw [w64 (x := s.To - s.From) (by omega) (by omega), w64 (x := s.To - s.From + 360) (by omega) (by omega), tm360, if_pos (by omega)]
 cases hb : ((s.To - s.From + 360) % 360 == 0) with
 | true => have := eq_of_beq hb; simp only [cond_true]; omega
 | false =>
  have : (s.To - s.From + 360) % 360 ≠ 0 := by intro h; rw [h] at hb; exact absurd hb (by decide)
  simp only [cond_false]; omega
theorem has_impl (s : Sector) (b : Int) (h1 : brg s.From) (h2 : brg s.To) (h3 : brg b) : zkf s b = decide ((b - s.From) % 360 < arcOf s) := by
 unfold zkf
 obtain ⟨a1, a2⟩ := h1; obtain ⟨c1, c2⟩ := h3
 rw [w64 (x := b - s.From) (by omega) (by omega), modulo_eq, arc_impl s ⟨a1, a2⟩ h2]
theorem arcOf_rng (s : Sector) : 1 ≤ arcOf s ∧ arcOf s ≤ 360 := by unfold arcOf; omega
def itR {σ : Type} (g : Nat → σ → σ) : Nat → Nat → σ → σ
 | 0, _, s => s
 | k + 1, i, s => itR g k (i + 1) (g i s)
theorem itR_succ {σ : Type} (g : Nat → σ → σ) : ∀ (k i : Nat) (s : σ), itR g (k + 1) i s = g (i + k) (itR g k i s)
 | 0, i, s => rfl
 | k + 1, i, s => by
  have := itR_succ g k (i + 1) (g i s)
  rw [show itR g (k + 1 + 1) i s = itR g (k + 1) (i + 1) (g i s) from rfl, this, show i + 1 + k = i + (k + 1) by omega]
  rfl
theorem loopR_test {ρ σ : Type} {b : Nat → σ → Except ρ σ} (p : Nat → Bool) (g : Nat → σ → σ) (r : ρ) : ∀ {k i : Nat} {s : σ}, (∀ j u, i ≤ j → j < i + k → b j u = bif p j then .error r else .ok (g j u)) →
  ((∃ j, i ≤ j ∧ j < i + k ∧ p j = true) ∧ loopR b k i s = .error r) ∨ ((∀ j, i ≤ j → j < i + k → p j = false) ∧ loopR b k i s = .ok (itR g k i s))
 | 0, i, s, _ => .inr ⟨fun j h1 h2 => by omega, rfl⟩
 | k + 1, i, s, hb => by
  simp only [loopR, hb i s (Nat.le_refl _) (by omega)]
  cases hp : p i with
  | true => exact .inl ⟨⟨i, Nat.le_refl _, by omega, hp⟩, rfl⟩
  | false =>
   simp only [cond_false]
   rcases loopR_test p g r (k := k) (i := i + 1) (s := g i s) (fun j u h1 h2 => hb j u (by omega) (by omega)) with ⟨⟨j, h1, h2, h3⟩, h4⟩ | ⟨h1, h2⟩
   ·exact .inl ⟨⟨j, by omega, by omega, h3⟩, h4⟩
   ·refine .inr ⟨fun j h3 h4 => ?_, h2⟩
    by_cases hji : j = i
    ·subst hji; exact hp
    ·exact h1 j (by omega) (by omega)
theorem loopW_scan {ρ : Type} {b : Int → Except (Sum ρ Int) Int} (q : Nat → Bool) (r : ρ) (n : Nat) (hb : ∀ j : Nat, j ≤ n → b (j : Int) = bif decide (j < n) then (bif q j then .error (.inl r) else .ok ((j + 1 : Nat) : Int)) else .error (.inr (j : Int))) :
  ∀ (m i k : Nat), i + m = n → m < k → ((∃ j, i ≤ j ∧ j < n ∧ q j = true) ∧ loopW b k (i : Int) = .error (.inl r)) ∨ ((∀ j, i ≤ j → j < n → q j = false) ∧ loopW b k (i : Int) = .error (.inr (n : Int)))
 | _, _, 0, _, h => absurd h (Nat.not_lt_zero _)
 | 0, i, k + 1, e, _ => by
  have : i = n := by omega
  subst this
  right
  refine ⟨fun j h1 h2 => by omega, ?_⟩
  simp only [loopW, hb i (Nat.le_refl _), Nat.lt_irrefl, decide_false, cond_false]
 | m + 1, i, k + 1, e, hk => by
  simp only [loopW, hb i (by omega), show i < n by omega, decide_true, cond_true]
  cases hq : q i with
  | true => exact .inl ⟨⟨i, Nat.le_refl _, by omega, hq⟩, rfl⟩
  | false =>
   simp only [cond_false]
   rcases loopW_scan q r n hb m (i + 1) k (by omega) (by omega) with ⟨⟨j, h1, h2, h3⟩, h4⟩ | ⟨h1, h2⟩
   ·exact .inl ⟨⟨j, by omega, h2, h3⟩, h4⟩
   ·refine .inr ⟨fun j h3 h4 => ?_, h2⟩
    by_cases hji : j = i
    ·subst hji; exact hq
    ·exact h1 j (by omega) h4
end Go.Ab

namespace Go.Ab
open Go Go.Proofs
def secQ (a : List Sector) (i : Nat) : Bool := (!(zje (a.getD i default))) || (decide (0 < (i : Int)) && decide (((a.getD i default).From) ≤ ((a.getD ((IntKind.wrap .i64 ((i : Int) - 1)).toNat) default).From)))
theorem secQ_iff (a : List Sector) (i : Nat) (hi : i < 9223372036854775807) : secQ a i = false ↔ zje (a.getD i default) = true ∧ (0 < i → (a.getD (i - 1) default).From < (a.getD i default).From) := by
 unfold secQ
 rw [Bool.or_eq_false_iff, Bool.not_eq_false']
 constructor
 ·rintro ⟨h1, h2⟩
  refine ⟨h1, fun h => ?_⟩
  rw [wrap_pred h (by omega)] at h2
  simp only [Bool.and_eq_false_iff, decide_eq_false_iff_not] at h2
  omega
 ·rintro ⟨h1, h2⟩
  refine ⟨h1, ?_⟩
  by_cases h : 0 < i
  ·rw [wrap_pred h (by omega)]
   have := h2 h
   simp only [Bool.and_eq_false_iff, decide_eq_false_iff_not]
   omega
  ·simp only [Bool.and_eq_false_iff, decide_eq_false_iff_not]; omega
theorem one_brg {s : Sector} (h : zje s = true) : brg s.From ∧ brg s.To := by
 unfold zje zng ze at h
 simp only [Bool.and_eq_true, decide_eq_true_eq] at h
 exact ⟨⟨h.1.1.1, h.1.1.2⟩, h.1.2.1, h.1.2.2⟩
theorem sum_rng (a : List Sector) (n : Nat) : ∀ k, k ≤ 1000 → 0 ≤ itR (fun i (s : Int) => s + arcOf (a.getD i default)) k 0 0 ∧ itR (fun i (s : Int) => s + arcOf (a.getD i default)) k 0 0 ≤ 360 * k
 | 0, _ => by simp [itR]
 | k + 1, h => by
  have := sum_rng a n k (by omega)
  rw [itR_succ]
  have := arcOf_rng (a.getD (0 + k) default)
  simp only [Nat.zero_add] at *
  omega
theorem validSectors_eq (a : List Sector) (hl : a.length < 9223372036854775807) : zjc a = zec a := by
 have sp1 := loopR_test (b := zec_b1 a) (secQ a) (fun _ u => u) false (k := a.length - 0) (i := 0) (s := ()) (fun j u _ _ => by cases u; rfl)
 let hasK (i : Nat) : Bool := (List.range a.length).any fun k => ((k : Int) != (i : Int)) && zkf (a.getD i default) ((a.getD k default).From)
 have im1 := loopR_test (b := zjc_b1 a) (fun i => secQ a i || hasK i) (fun i (s : Int) => IntKind.wrap .i64 (s + zod (a.getD i default))) false (k := a.length - 0) (i := 0) (s := 0) (fun j u _ _ => by
  simp only [zjc_b1, sector_eq]
  rw [show ((!zje (a.getD j default)) || (decide (0 < (j : Int)) && decide (((a.getD j default).From) ≤ ((a.getD ((IntKind.wrap .i64 ((j : Int) - 1)).toNat) default).From)))) = secQ a j from rfl]
  cases hq : secQ a j with
  | true => rfl
  | false =>
   simp only [cond_false, Bool.false_or]
   rw [loopR_any (b := zjc_b2 a j u) (fun k => ((k : Int) != (j : Int)) && zkf (a.getD j default) ((a.getD k default).From)) false (fun k v _ _ => rfl)]
   simp only [Nat.sub_zero, Nat.zero_add]
   show (match (bif hasK j then Except.error false else Except.ok ()) with | .error e => Except.error e | .ok s2 => Except.ok (IntKind.wrap .i64 (u + zod (a.getD j default)))) = bif hasK j then Except.error false else Except.ok (IntKind.wrap .i64 (u + zod (a.getD j default)))
   cases hasK j <;> rfl)
 unfold zjc zec
 rcases sp1 with ⟨⟨j, _, hj, hq⟩, e1⟩ | ⟨hq, e1⟩
 ·rcases im1 with ⟨_, e2⟩ | ⟨hn, _⟩
  ·rw [e1, e2]
   cases decide (12 < (a.length : Int)) <;> rfl
  ·have := hn j (Nat.zero_le _) hj
   simp only [hq, Bool.true_or] at this
   cases this
 ·have hq' : ∀ i, i < a.length → zje (a.getD i default) = true ∧ (0 < i → (a.getD (i - 1) default).From < (a.getD i default).From) := fun i hi => (secQ_iff a i (by omega)).1 (hq i (Nat.zero_le _) (by omega))
  have hb : ∀ i, i < a.length → brg (a.getD i default).From ∧ brg (a.getD i default).To := fun i hi => one_brg (hq' i hi).1
  have hs : ∀ i, i + 1 < a.length → (a.getD i default).From < (a.getD (i + 1) default).From := fun i hi => by have := (hq' (i + 1) hi).2 (by omega); simpa using this
  rw [e1]
  simp only
  have apart := arcs_apart (f := fun i => (a.getD i default).From) (arc := fun i => arcOf (a.getD i default)) (n := a.length) (fun i hi => (hb i hi).1) hs
  -- the reference's second loop
  let q2 (j : Nat) : Bool := decide (1 < a.length) && decide ((((a.getD ((j + 1) % a.length) default).From - (a.getD j default).From + 360) % 360) < arcOf (a.getD j default))
  have sp2 := loopW_scan (b := zec_b2 a ()) q2 false (if 1 < a.length then a.length else 0) (fun j hj => by
   simp only [zec_b2]
   by_cases hn : 1 < a.length
   ·rw [if_pos hn] at hj ⊢
    have d1 : decide ((1 : Int) < (a.length : Int)) = true := by simp; omega
    rw [d1, Bool.and_true]
    by_cases hjl : j < a.length
    ·have d2 : decide ((j : Int) < (a.length : Int)) = true := by simp; omega
     rw [d2, decide_eq_true hjl]
     simp only [cond_true]
     have w1 : IntKind.wrap .i64 ((j : Int) + 1) = ((j + 1 : Nat) : Int) := by rw [IntKind.wrap_i64]; omega
     have t1 : ((IntKind.wrap .i64 ((j : Int) + 1)).tmod (a.length : Int)).toNat = (j + 1) % a.length := by
      rw [w1, Int.tmod_eq_emod_of_nonneg (by omega), show ((j + 1 : Nat) : Int) % (a.length : Int) = (((j + 1) % a.length : Nat) : Int) from rfl, Int.toNat_natCast]
     rw [t1, Int.toNat_natCast, arc_spec _ (hb j hjl).1 (hb j hjl).2, w1]
     have hm : (j + 1) % a.length < a.length := Nat.mod_lt _ (by omega)
     have b1 := (hb _ hm).1
     have b2 := (hb j hjl).1
     obtain ⟨c1, c2⟩ := b1
     obtain ⟨c3, c4⟩ := b2
     rw [w64 (x := (a.getD ((j + 1) % a.length) default).From - (a.getD j default).From) (by omega) (by omega), w64 (x := (a.getD ((j + 1) % a.length) default).From - (a.getD j default).From + 360) (by omega) (by omega), Int.tmod_eq_emod_of_nonneg (by omega)]
     show _ = bif q2 j then _ else _
     rw [show q2 j = decide ((((a.getD ((j + 1) % a.length) default).From - (a.getD j default).From + 360) % 360) < arcOf (a.getD j default)) from by show (decide (1 < a.length) && _) = _; rw [decide_eq_true hn, Bool.true_and]]
    ·have d2 : decide ((j : Int) < (a.length : Int)) = false := by simp; omega
     rw [d2, decide_eq_false hjl]
     rfl
   ·rw [if_neg hn] at hj ⊢
    have d1 : decide ((1 : Int) < (a.length : Int)) = false := by simp; omega
    have d3 : decide (j < 0) = false := by simp
    rw [d1, Bool.and_false, d3]
    rfl) (if 1 < a.length then a.length else 0) 0 (a.length - (0 : Int).toNat + 1) (by omega) (by simp; split <;> omega)
  have e0 : ((0 : Nat) : Int) = 0 := rfl
  rw [e0] at sp2
  -- what the program's loop says
  have hask : ∀ i, i < a.length → (hasK i = false ↔ ∀ k, k < a.length → k ≠ i → arcOf (a.getD i default) ≤ ((a.getD k default).From - (a.getD i default).From) % 360) := by
   intro i hi
   show ((List.range a.length).any _) = false ↔ _
   rw [List.any_eq_false]
   constructor
   ·intro h k hk hki
    have := h k (List.mem_range.2 hk)
    rw [has_impl _ _ (hb i hi).1 (hb i hi).2 (hb k hk).1] at this
    simp only [Bool.and_eq_true, bne_iff_ne, decide_eq_true_eq, not_and] at this
    have := this (by omega)
    omega
   ·intro h k hk
    have hk := List.mem_range.1 hk
    rw [has_impl _ _ (hb i hi).1 (hb i hi).2 (hb k hk).1]
    simp only [Bool.and_eq_true, bne_iff_ne, decide_eq_true_eq, not_and]
    intro hki
    have := h k hk (by omega)
    omega
  rcases im1 with ⟨⟨i, _, hi, hc⟩, e2⟩ | ⟨hn, e2⟩
  · -- two sectors meet
   rw [e2]
   simp only
   have hi : i < a.length := by omega
   rw [hq i (Nat.zero_le _) (by omega), Bool.false_or] at hc
   have hne : ¬ ∀ k, k < a.length → k ≠ i → arcOf (a.getD i default) ≤ ((a.getD k default).From - (a.getD i default).From) % 360 := fun h => by
    rw [(hask i hi).2 h] at hc; cases hc
   have hno : ¬ (1 < a.length → ∀ i, i < a.length → arcOf (a.getD i default) ≤ ((a.getD ((i + 1) % a.length) default).From - (a.getD i default).From + 360) % 360) := fun h => hne (fun k hk hki => apart.2 h i hi k hk hki)
   cases decide (12 < (a.length : Int)) with
   | true => rfl
   | false =>
    simp only [cond_false]
    rcases sp2 with ⟨_, e3⟩ | ⟨h3, _⟩
    ·rw [e3]
    ·exfalso
     apply hno
     intro hn1 j hj
     have := h3 j (Nat.zero_le _) (by rw [if_pos hn1]; exact hj)
     have : decide ((((a.getD ((j + 1) % a.length) default).From - (a.getD j default).From + 360) % 360) < arcOf (a.getD j default)) = false := by
      have h4 : (decide (1 < a.length) && _) = false := this
      rwa [decide_eq_true hn1, Bool.true_and] at h4
     have := of_decide_eq_false this
     omega
  ·rw [e2]
   simp only [zkb]
   have hall : ∀ i, i < a.length → ∀ k, k < a.length → k ≠ i → arcOf (a.getD i default) ≤ ((a.getD k default).From - (a.getD i default).From) % 360 := fun i hi => (hask i hi).1 (by
    have := hn i (Nat.zero_le _) (by omega)
    rw [Bool.or_eq_false_iff] at this
    exact this.2)
   have hcons := apart.1 hall
   have e3 : loopW (zec_b2 a ()) (a.length - (0 : Int).toNat + 1) 0 = .error (.inr ((if 1 < a.length then a.length else 0 : Nat) : Int)) := by
    rcases sp2 with ⟨⟨j, _, hj, h4⟩, _⟩ | ⟨_, e3⟩
    ·exfalso
     have h4 : (decide (1 < a.length) && decide ((((a.getD ((j + 1) % a.length) default).From - (a.getD j default).From + 360) % 360) < arcOf (a.getD j default))) = true := h4
     rw [Bool.and_eq_true] at h4
     have g1 := of_decide_eq_true h4.1
     have g2 := of_decide_eq_true h4.2
     rw [if_pos g1] at hj
     have := hcons g1 j hj
     omega
    ·exact e3
   rw [e3]
   simp only
   cases h12 : decide (12 < (a.length : Int)) with
   | true =>
    have := of_decide_eq_true h12
    rw [decide_eq_false (show ¬ (a.length : Int) ≤ 12 by omega), Bool.false_and]
    rfl
   | false =>
    have h12 := of_decide_eq_false h12
    rw [decide_eq_true (show (a.length : Int) ≤ 12 by omega), Bool.true_and]
    simp only [cond_false]
    have hit : ∀ k, k ≤ a.length → itR (fun i (s : Int) => IntKind.wrap .i64 (s + zod (a.getD i default))) k 0 0 = itR (fun i (s : Int) => s + arcOf (a.getD i default)) k 0 0 := by
     intro k
     induction k with
     | zero => intro _; rfl
     | succ k ih =>
      intro hk
      rw [itR_succ, itR_succ, ih (by omega)]
      simp only [Nat.zero_add]
      have r1 := sum_rng a 0 k (by omega)
      rw [arc_impl _ (hb k (by omega)).1 (hb k (by omega)).2]
      have r2 := arcOf_rng (a.getD k default)
      exact w64 (by omega) (by omega)
    have hle := arcs_sum (f := fun i => (a.getD i default).From) (arc := fun i => arcOf (a.getD i default)) (S := fun k => itR (fun i (s : Int) => s + arcOf (a.getD i default)) k 0 0) (n := a.length) (fun i hi => (hb i hi).1) hs (fun i _ => arcOf_rng _) hcons rfl (fun i _ => by
     show itR _ (i + 1) 0 0 = _
     rw [itR_succ]
     simp only [Nat.zero_add])
    rw [hit _ (by omega)]
    exact decide_eq_true (by simpa using hle)
end Go.Ab

namespace Go.Ab
open Go Go.Proofs
theorem ib_mem (s : List UInt8) (c : UInt8) : -1 ≤ Go.Lib.indexByte s c ∧ (0 ≤ Go.Lib.indexByte s c ↔ c ∈ s) := by
 induction s with
 | nil => simp [Go.Lib.indexByte]
 | cons b l ih =>
  obtain ⟨i1, i2⟩ := ih
  by_cases hb : b = c
  ·subst hb; simp [Go.Lib.indexByte]
  ·have hb2 : ¬ c = b := fun h => hb h.symm
   have e1 : (b == c) = false := by simpa using hb
   by_cases hm : c ∈ l
   ·have h0 := i2.2 hm
    have e2 : (Go.Lib.indexByte l c == -1) = false := by rw [beq_eq_false_iff_ne]; omega
    have e3 : Go.Lib.indexByte (b :: l) c = Go.Lib.indexByte l c + 1 := by simp only [Go.Lib.indexByte, e1, e2, Bool.false_eq_true, if_false]
    rw [e3]
    exact ⟨by omega, fun _ => List.mem_cons_of_mem _ hm, fun _ => by omega⟩
   ·have h0 : ¬ 0 ≤ Go.Lib.indexByte l c := fun h => hm (i2.1 h)
    have e0 : Go.Lib.indexByte l c = -1 := by omega
    have e3 : Go.Lib.indexByte (b :: l) c = -1 := by simp only [Go.Lib.indexByte, e1, e0, Bool.false_eq_true, if_false]; rfl
    rw [e3]
    refine ⟨by omega, fun h => by omega, fun h => ?_⟩
    rcases List.mem_cons.1 h with h | h
    ·exact absurd h hb2
    ·exact absurd h hm
theorem has_mem (s : List UInt8) (c : UInt8) : zmb s [c] = decide (c ∈ s) := by
 unfold zmb
 rw [List.getD_cons_zero]
 exact decide_eq_decide.2 (ib_mem s c).2
theorem has_snoc (s : List UInt8) (c : UInt8) : zmb (s ++ [c]) [c] = true := by
 rw [has_mem]; simp
theorem has_ne (s : List UInt8) (b c : UInt8) (h : b ≠ c) : zmb (s ++ [b]) [c] = zmb s [c] := by
 rw [has_mem, has_mem]
 have : ¬ c = b := fun e => h e.symm
 simp [this]
theorem col_stay (c : UInt8) (g : Sector → List UInt8 → Except (List UInt8) (List UInt8)) (hg : ∀ x u, g x u = bif ((x.Color == [c]) && (!(zmb u [c]))) then .ok (u ++ [c]) else .ok u) :
  ∀ (l : List Sector) (u : List UInt8), zmb u [c] = true → loopL g l u = .ok u
 | [], u, _ => rfl
 | x :: l, u, h => by
  rw [loopL_cons, hg, h, Bool.not_true, Bool.and_false]
  exact col_stay c g hg l u h
theorem col_add (c : UInt8) (g : Sector → List UInt8 → Except (List UInt8) (List UInt8)) (hg : ∀ x u, g x u = bif ((x.Color == [c]) && (!(zmb u [c]))) then .ok (u ++ [c]) else .ok u) :
  ∀ (l : List Sector) (u : List UInt8), zmb u [c] = false → loopL g l u = .ok (bif l.any (fun x => x.Color == [c]) then u ++ [c] else u)
 | [], u, _ => rfl
 | x :: l, u, h => by
  rw [loopL_cons, hg, h, Bool.not_false, Bool.and_true, List.any_cons]
  cases hx : (x.Color == [c]) with
  | true =>
   simp only [cond_true, Bool.true_or]
   exact col_stay c g hg l _ (has_snoc u c)
  | false =>
   simp only [cond_false, Bool.false_or]
   exact col_add c g hg l u h
theorem col_brk (c : List UInt8) (g : Sector → List UInt8 → Except (Sum (List UInt8) (List UInt8)) (List UInt8)) (hg : ∀ x u, g x u = bif (x.Color == c) then .error (.inr (u ++ c)) else .ok u) :
  ∀ (l : List Sector) (u : List UInt8), loopL g l u = bif l.any (fun x => x.Color == c) then .error (.inr (u ++ c)) else .ok u
 | [], u => rfl
 | x :: l, u => by
  rw [loopL_cons, hg, List.any_cons]
  cases hx : (x.Color == c) with
  | true => rfl
  | false =>
   simp only [cond_false, Bool.false_or]
   exact col_brk c g hg l u
def colStep (a : List Sector) (s : List UInt8) (c : UInt8) : List UInt8 := bif a.any (fun x => x.Color == [c]) then s ++ [c] else s
theorem colsI_step (a : List Sector) (i : Nat) (s : List UInt8) (c : UInt8) (h4 : i < 4) (hc : (([87, 82, 71, 89].take ((IntKind.wrap .i64 ((i : Int) + 1)).toNat)).drop i) = [c]) (h : zmb s [c] = false) :
  zkc_b1 a i s = .ok (colStep a s c) := by
 unfold zkc_b1
 rw [loopR_list0 (fun x u => bif ((x.Color == [c]) && (!(zmb u [c]))) then .ok (u ++ [c]) else .ok u) a s (fun j u _ => by simp only [zkc_b2, hc])]
 rw [col_add c _ (fun _ _ => rfl) a s h]
 rfl
theorem colsS_step (a : List Sector) (i : Nat) (s : List UInt8) (c : UInt8) (hc : ([[87], [82], [71], [89]] : List (List UInt8)).getD i default = [c]) : zlc_b1 a i s = .ok (colStep a s c) := by
 unfold zlc_b1
 rw [loopR_list0 (fun x u => bif (x.Color == [c]) then .error (.inr (u ++ [c])) else .ok u) a s (fun j u _ => by simp only [zlc_b2, hc])]
 rw [col_brk [c] _ (fun _ _ => rfl) a s]
 unfold colStep
 cases a.any (fun x => x.Color == [c]) <;> rfl
theorem has_colStep (a : List Sector) (s : List UInt8) (b c : UInt8) (h : b ≠ c) : zmb (colStep a s b) [c] = zmb s [c] := by
 unfold colStep
 cases a.any (fun x => x.Color == [b]) with
 | true => exact has_ne s b c h
 | false => rfl
theorem secColors_eq (a : List Sector) : zkc a = zlc a := by
 unfold zkc zlc
 have n0 : ∀ c : UInt8, zmb [] [c] = false := by intro c; simp [zmb, Go.Lib.indexByte]
 have l4 : ([87, 82, 71, 89] : List Nat).length - 0 = 4 := rfl
 rw [l4]
 simp only [loopR, Nat.sub_zero]
 rw [colsI_step a 0 [] 87 (by omega) rfl (n0 _), colsS_step a 0 [] 87 rfl]
 simp only
 rw [colsI_step a (0 + 1) _ 82 (by omega) rfl (by rw [has_colStep _ _ _ _ (by decide)]; exact n0 _), colsS_step a (0 + 1) _ 82 rfl]
 simp only
 rw [colsI_step a (0 + 1 + 1) _ 71 (by omega) rfl (by rw [has_colStep _ _ _ _ (by decide), has_colStep _ _ _ _ (by decide)]; exact n0 _), colsS_step a (0 + 1 + 1) _ 71 rfl]
 simp only
 rw [colsI_step a (0 + 1 + 1 + 1) _ 89 (by omega) rfl (by rw [has_colStep _ _ _ _ (by decide), has_colStep _ _ _ _ (by decide), has_colStep _ _ _ _ (by decide)]; exact n0 _), colsS_step a (0 + 1 + 1 + 1) _ 89 rfl]
end Go.Ab

namespace Go.Ab
open Go Go.Proofs
theorem index_mem (l : List (List UInt8)) (x : List UInt8) : zhf l x = l.any (fun y => y == x) := by
 unfold zhf zke
 rcases loopR_first (b := zke_b1 l x) (fun j => x == l.getD j default) (fun j => (j : Int)) (k := l.length - 0) (i := 0) (s := ()) (fun j u _ _ => rfl) with ⟨j, _, h2, h3, h4, h5⟩ | ⟨h1, h2⟩
 ·rw [h5]
  simp only
  rw [decide_eq_true (show (0 : Int) ≤ (j : Int) by omega)]
  symm
  rw [List.any_eq_true]
  have hj : j < l.length := by omega
  have h3 : (x == l.getD j default) = true := h3
  have h3 := eq_of_beq h3
  refine ⟨l.getD j default, ?_, by rw [← h3]; simp⟩
  rw [List.getD_eq_getElem?_getD, List.getElem?_eq_getElem hj]
  exact List.getElem_mem hj
 ·rw [h2]
  simp only
  rw [decide_eq_false (show ¬ (0 : Int) ≤ -1 by omega)]
  symm
  rw [List.any_eq_false]
  intro y hy
  obtain ⟨i, hi, rfl⟩ := List.getElem_of_mem hy
  have : (x == l.getD i default) = false := h1 i (Nat.zero_le _) (by omega)
  rw [List.getD_eq_getElem?_getD, List.getElem?_eq_getElem hi, Option.getD_some] at this
  intro h
  rw [eq_of_beq h] at this
  simp at this
theorem kinds19 {k : Int} (h : zvd k = true) : k = 1 ∨ k = 2 ∨ k = 3 ∨ k = 4 ∨ k = 5 ∨ k = 6 ∨ k = 7 ∨ k = 8 ∨ k = 9 := by
 unfold zvd ze at h
 simp only [Bool.and_eq_true, decide_eq_true_eq] at h
 omega
theorem markColors_eq {k : Int} (h : zvd k = true) : zyf k = zbg k := by
 rcases kinds19 h with rfl | rfl | rfl | rfl | rfl | rfl | rfl | rfl | rfl <;> rfl
theorem markTop_eq {k : Int} (h : zvd k = true) : zzf k = zcg k := by
 rcases kinds19 h with rfl | rfl | rfl | rfl | rfl | rfl | rfl | rfl | rfl <;> rfl
theorem markShapes_eq {k : Int} (h : zvd k = true) : zyd k = znb k := by
 rcases kinds19 h with rfl | rfl | rfl | rfl | rfl | rfl | rfl | rfl | rfl <;> decide
theorem shapes_any (m : Mark) : (match loopR (zae_b1 m) (((znb m.Kind).length) - 0) 0 () with | .error e => e | .ok s1 => false) = (znb m.Kind).any (fun y => y == m.Shape) := by
 rcases loopR_first (b := zae_b1 m) (fun j => (znb m.Kind).getD j default == m.Shape) (fun _ => true) (k := (znb m.Kind).length - 0) (i := 0) (s := ()) (fun j u _ _ => rfl) with ⟨j, _, h2, h3, h4, h5⟩ | ⟨h1, h2⟩
 ·rw [h5]
  simp only
  symm
  rw [List.any_eq_true]
  have hj : j < (znb m.Kind).length := by omega
  refine ⟨(znb m.Kind).getD j default, ?_, h3⟩
  rw [List.getD_eq_getElem?_getD, List.getElem?_eq_getElem hj]
  exact List.getElem_mem hj
 ·rw [h2]
  simp only
  symm
  rw [List.any_eq_false]
  intro y hy
  obtain ⟨i, hi, rfl⟩ := List.getElem_of_mem hy
  have : ((znb m.Kind).getD i default == m.Shape) = false := h1 i (Nat.zero_le _) (by omega)
  rw [List.getD_eq_getElem?_getD, List.getElem?_eq_getElem hi, Option.getD_some] at this
  rw [this]; decide
theorem vm_aux (m : Mark) : zag m = (bif (m.Kind == 0) then (m.Kind == 0 && (m.Colors == [] && (m.Shape == [] && m.Topmark == []))) else (bif (((!(zvd m.Kind)) || (m.Colors != (zbg m.Kind))) || ((m.Topmark != []) && (m.Topmark != (zcg m.Kind)))) then false else (znb m.Kind).any (fun y => y == m.Shape))) := by
 unfold zag
 have hk : zwf m.Kind = zvd m.Kind := rfl
 rw [hk]
 cases h0 : (m.Kind == 0) with
 | true =>
  have e := eq_of_beq h0
  have hn : zvd m.Kind = false := by rw [e]; rfl
  simp only [Bool.true_and, cond_true, hn, Bool.false_and]
  cases (m.Colors == [] && (m.Shape == [] && m.Topmark == [])) <;> rfl
 | false =>
  simp only [Bool.false_and, cond_false]
  cases h1 : zvd m.Kind with
  | false => rfl
  | true =>
   rw [markColors_eq h1, markTop_eq h1, markShapes_eq h1, index_mem]
   simp only [Bool.true_and, Bool.not_true, Bool.false_or, bne]
   cases (m.Colors == zbg m.Kind) <;> cases (m.Topmark == []) <;> cases (m.Topmark == zcg m.Kind) <;> simp
theorem validMark_eq (m : Mark) : zag m = zlf m := by
 rw [vm_aux]
 unfold zlf zae
 have hs := shapes_any m
 generalize loopR (zae_b1 m) ((znb m.Kind).length - 0) 0 () = z at hs ⊢
 cases z with
 | error e => simp only at hs ⊢; rw [hs]
 | ok u => simp only at hs ⊢; rw [hs]
end Go.Ab

namespace Go.Ab
open Go Go.Proofs
def zgh (a0 : Aid) : Bool :=
 (bif (((!(zeg a0.Light)) || (!(zyg a0.Intensity))) || (!(zjc a0.Sectors))) then false else (bif ((a0.Sectors.length : Int) == 0) then ((a0.Light.Colors.length : Int) == 1) else ((zkc a0.Sectors) == a0.Light.Colors)))
namespace N163
theorem DD : DOk Tryz.prog (Go.Ab.DD [(201, dP D_zeg), (202, dP D_zyg), (203, dP D_zjc), (204, dP D_zkc)]) := DD_cons D_zeg_ok.e <| DD_cons D_zyg_ok.e <| DD_cons D_zjc_ok.e <| DD_cons D_zkc_ok.e <| DD_nil _
theorem dn : type_of% (And.intro @D_zeg.eq_1 <| And.intro @D_zyg.eq_1 <| And.intro @D_zjc.eq_1 <| @D_zkc.eq_1) := by and_intros <;> intros <;> rfl
theorem den (a0 : Aid) (hb0 : bdAid a0) : Den Tryz.prog 163 [.agg (eAid a0)] (.bool (zgh a0)) := by
 generalize hR : zgh a0 = r
 unfold zgh at hR
 refine di Tryz.func163 Tryz.ntmps163 Tryz.results163 ?_
 intro c hL hc hk
 obtain ⟨hL0, _⟩ := hL
 have hw0 : bwAid a0 := Aid_lens a0 hL0
 clear hL0
 simp only [pars, Nat.zero_add]
 iterate 2 refine rS ?_
 refine AWP.cond rfl (fun hb => ?_) (fun hb => ?_)
 ·replace hR := ct hR
  refine rS ?_
  refine AWP.ret ?_
  subst hR
  exact es
 ·replace hR := cf hR
  refine rS ?_
  refine AWP.cond rfl (fun hb => ?_) (fun hb => ?_)
  ·replace hR := ct hR
   refine rS ?_
   refine AWP.ret ?_
   subst hR
   exact es
  ·replace hR := cf hR
   refine rD 6 ?_
   refine AWP.ret ?_
   subst hR
   exact es
end N163
def D_zgh : DF
 | [x0] => some (.bool (zgh (rdG dAid x0)), false, [wG eAid dAid x0, bdAid (rdG dAid x0)])
 | _ => none
theorem D_zgh_ok : OkD Tryz.prog 163 D_zgh := by unfold D_zgh; exact dk N163.den
end Go.Ab

namespace Go.Ab
open Go Go.Proofs
def zob (a0 : Aid) : Bool :=
 ((((((zge a0.Number) && (zee a0.Name)) && (zwg a0.At)) && (zxg a0.Height)) && (zag a0.Mark)) && ((zgh a0) || (zjg a0)))
namespace N93
theorem DD : DOk Tryz.prog (Go.Ab.DD [(158, dP D_zge), (159, dP D_zee), (160, dP D_zwg), (161, dP D_zxg), (162, dP D_zag), (163, dP D_zgh), (164, dP D_zjg)]) := DD_cons D_zge_ok.e <| DD_cons D_zee_ok.e <| DD_cons D_zwg_ok.e <| DD_cons D_zxg_ok.e <| DD_cons D_zag_ok.e <| DD_cons D_zgh_ok.e <| DD_cons D_zjg_ok.e <| DD_nil _
theorem dn : type_of% (And.intro @D_zge.eq_1 <| And.intro @D_zee.eq_1 <| And.intro @D_zwg.eq_1 <| And.intro @D_zxg.eq_1 <| And.intro @D_zag.eq_1 <| And.intro @D_zgh.eq_1 <| @D_zjg.eq_1) := by and_intros <;> intros <;> rfl
theorem den (a0 : Aid) (hb0 : bdAid a0) : Den Tryz.prog 93 [.agg (eAid a0)] (.bool (zob a0)) := by
 generalize hR : zob a0 = r
 unfold zob at hR
 refine di Tryz.func93 Tryz.ntmps93 Tryz.results93 ?_
 intro c hL hc hk
 obtain ⟨hL0, _⟩ := hL
 have hw0 : bwAid a0 := Aid_lens a0 hL0
 clear hL0
 simp only [pars, Nat.zero_add]
 iterate 2 refine rS ?_
 refine AWP.ret ?_
 subst hR
 exact es
end N93
def D_zob : DF
 | [x0] => some (.bool (zob (rdG dAid x0)), false, [wG eAid dAid x0, bdAid (rdG dAid x0)])
 | _ => none
theorem D_zob_ok : OkD Tryz.prog 93 D_zob := by unfold D_zob; exact dk N93.den
end Go.Ab
