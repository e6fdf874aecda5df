/- A part of a proof: walks of functions and lemmas of our own. No conditions. -/
import Derived.Test.YtaneiddiakjgdaaGreatDoorVAl
import Derived.Test.YtaneiddiakjgdaaGreatDoorVBa
import Derived.Test.YtaneiddiakjgdaaGreatDoorVAp
import Derived.Test.YtaneiddiakjgdaaGreatDoorVAi
import Derived.Test.YtaneiddiakjgdaaGreatDoorVAn
set_option linter.unusedSectionVars false
set_option linter.unusedVariables false
set_option linter.unusedSimpArgs false
set_option maxHeartbeats 1000000
namespace Go.Ab
open Go Go.Proofs
def zm_b1 (a0 : (List Int)) (a1 : Int) (i1 : Nat) (s1 : Int) : Except (Int) (Int) :=
 (bif ((a0.getD i1 default) != s1) then .error (-1) else .ok (IntKind.wrap .i64 (s1 + 1)))
def zm (a0 : (List Int)) (a1 : Int) : Int :=
 (match loopR (zm_b1 a0 a1) (a0.length - 0) 0 a1 with | .error e => e | .ok s1 => s1)
namespace N21
theorem DD : DOk Tryz.prog (Go.Ab.DD []) := DD_nil _
theorem den (a0 : (List Int)) (a1 : Int)  : Den Tryz.prog 21 [encL 1 eIi64 a0, .int .i64 a1] (.int .i64 (zm a0 a1)) := by
 generalize hR : zm a0 a1 = r
 unfold zm at hR
 refine di Tryz.func21 Tryz.ntmps21 Tryz.results21 ?_
 intro c hL hc hk
 obtain ⟨hL0, hL1, _⟩ := hL
 have hw0 : a0.length < 9223372036854775808 := Nat.lt_succ_of_le (lens_encL hL0).1
 clear hL0 hL1
 simp only [pars, Nat.zero_add]
 iterate 2 refine rS ?_
 refine AWP.block ?_
 generalize hz1 : loopR (zm_b1 a0 a1) (a0.length - 0) 0 a1 = z1 at hR
 refine AWP.range (zm_b1 a0 a1) (fun i1 s1 => ⟨[(0, encL 1 eIi64 a0), (1, .int .i64 s1), (5, .int .i64 (i1 : Int))], []⟩) (fun i1 s1 => True) (a0.length) 0 a1 [] hz1 ot wt sm ?_
 clear hz1
 intro i1 s1 hi1 hW1 hz1
 refine rS ?_
 refine AWP.cond rfl (fun hb => ?_) (fun hb => ?_)
 ·have hlt1 : i1 < a0.length := ot
  rw [loopR_lt hlt1] at hz1; simp only [zm_b1] at hz1
  refine rS ?_
  refine AWP.cond rfl (fun hb => ?_) (fun hb => ?_)
  ·simp only [hb, cond_true] at hz1
   refine rS ?_
   refine AWP.ret ?_
   subst hz1
   dsimp only at hR
   subst hR
   exact es
  ·simp only [hb, cond_false] at hz1
   iterate 2 refine rS ?_
   exact ⟨_, [], hlt1, wt, hz1, sm⟩
 ·obtain rfl : i1 = a0.length := ot
  rw [loopR_ge (Nat.le_refl _)] at hz1; subst hz1; dsimp only at hR
  refine AWP.exit ?_; refine exitTo_here ?_
  refine rS ?_
  refine AWP.ret ?_
  subst hR
  exact es
end N21
def D_zm : DF
 | [x0, x1] => some (.int .i64 (zm (rdL dIi64 x0) (rdI x1)), false, [wL 1 eIi64 dIi64 x0, wI .i64 x1])
 | _ => none
theorem D_zm_ok : OkD Tryz.prog 21 D_zm := by unfold D_zm; exact dk N21.den
end Go.Ab

namespace Go.Ab
open Go Go.Proofs
def zib_b1 (a0 : (List Sector)) (a1 : Int) (i1 : Nat) (s1 : Int) : Except (Int) (Int) :=
 (bif (((a0.getD i1 default).From) != s1) then .error (-1) else (bif (((a0.getD i1 default).To) != (IntKind.wrap .i64 (s1 + 1))) then .error (-1) else (bif (((a0.getD i1 default).Color) != (zf (IntKind.wrap .i64 ((IntKind.wrap .i64 (s1 + 1)) + 1)))) then .error (-1) else .ok (IntKind.wrap .i64 ((IntKind.wrap .i64 ((IntKind.wrap .i64 (s1 + 1)) + 1)) + 1)))))
def zib (a0 : (List Sector)) (a1 : Int) : Int :=
 (match loopR (zib_b1 a0 a1) (a0.length - 0) 0 a1 with | .error e => e | .ok s1 => s1)
namespace N83
theorem DD : DOk Tryz.prog (Go.Ab.DD [(75, dP D_zf)]) := DD_cons D_zf_ok.e <| DD_nil _
theorem dn : type_of% (@D_zf.eq_1) := by and_intros <;> intros <;> rfl
theorem den (a0 : (List Sector)) (a1 : Int) (hp0 : a1 ≤ 9223372036854775807) : Den Tryz.prog 83 [encL 3 eSector a0, .int .i64 a1] (.int .i64 (zib a0 a1)) := by
 generalize hR : zib a0 a1 = r
 unfold zib at hR
 refine di Tryz.func83 Tryz.ntmps83 Tryz.results83 ?_
 intro c hL hc hk
 obtain ⟨hL0, hL1, _⟩ := hL
 have hw0 : a0.length < 9223372036854775808 := Nat.lt_succ_of_le (lens_encL hL0).1
 have hw1 : ∀ v ∈ a0, bwSector v := fun v hv => Sector_lens v ((lens_encL hL0).2 v hv)
 clear hL0 hL1
 simp only [pars, Nat.zero_add]
 iterate 2 refine rS ?_
 refine AWP.block ?_
 generalize hz1 : loopR (zib_b1 a0 a1) (a0.length - 0) 0 a1 = z1 at hR
 refine AWP.range (zib_b1 a0 a1) (fun i1 s1 => ⟨[(0, encL 3 eSector a0), (1, .int .i64 s1), (5, .int .i64 (i1 : Int))], []⟩) (fun i1 s1 => s1 ≤ 9223372036854775807) (a0.length) 0 a1 [] hz1 ot wt sm ?_
 clear hz1
 intro i1 s1 hi1 hW1 hz1
 refine rS ?_
 refine AWP.cond rfl (fun hb => ?_) (fun hb => ?_)
 ·have hlt1 : i1 < a0.length := ot
  rw [loopR_lt hlt1] at hz1; simp only [zib_b1] at hz1
  refine rS ?_
  refine AWP.cond rfl (fun hb => ?_) (fun hb => ?_)
  ·simp only [hb, cond_true] at hz1
   refine rS ?_
   refine AWP.ret ?_
   subst hz1
   dsimp only at hR
   subst hR
   exact es
  ·simp only [hb, cond_false] at hz1
   iterate 2 refine rS ?_
   refine AWP.cond rfl (fun hb => ?_) (fun hb => ?_)
   ·simp only [hb, cond_true] at hz1
    refine rS ?_
    refine AWP.ret ?_
    subst hz1
    dsimp only at hR
    subst hR
    exact es
   ·simp only [hb, cond_false] at hz1
    refine rS ?_
    refine rD 7 ?_
    refine AWP.cond rfl (fun hb => ?_) (fun hb => ?_)
    ·simp only [hb, cond_true] at hz1
     refine rS ?_
     refine AWP.ret ?_
     subst hz1
     dsimp only at hR
     subst hR
     exact es
    ·simp only [hb, cond_false] at hz1
     iterate 2 refine rS ?_
     exact ⟨_, [], hlt1, by (exact mrg), hz1, sm⟩
 ·obtain rfl : i1 = a0.length := ot
  rw [loopR_ge (Nat.le_refl _)] at hz1; subst hz1; dsimp only at hR
  refine AWP.exit ?_; refine exitTo_here ?_
  refine rS ?_
  refine AWP.ret ?_
  subst hR
  exact es
end N83
def D_zib : DF
 | [x0, x1] => some (.int .i64 (zib (rdL dSector x0) (rdI x1)), false, [wL 3 eSector dSector x0, wI .i64 x1, (rdI x1) ≤ 9223372036854775807])
 | _ => none
theorem D_zib_ok : OkD Tryz.prog 83 D_zib := by unfold D_zib; exact dk N83.den
end Go.Ab

namespace Go.Ab
open Go Go.Proofs
theorem loopR_pres {ρ σ : Type} {b : Nat → σ → Except ρ σ} (P : σ → Prop) (Q : ρ → Prop) (h : ∀ j u, P u → (∀ e, b j u = .error e → Q e) ∧ (∀ v, b j u = .ok v → P v)) : ∀ (k i : Nat) (s : σ), P s → (∀ e, loopR b k i s = .error e → Q e) ∧ (∀ v, loopR b k i s = .ok v → P v)
 | 0, i, s, hs => ⟨fun e he => by simp [loopR] at he, fun v hv => by simp only [loopR, Except.ok.injEq] at hv; subst hv; exact hs⟩
 | k + 1, i, s, hs => by
  have h0 := h i s hs
  simp only [loopR]
  cases hb : b i s with
  | error r => exact ⟨fun e he => by cases he; exact h0.1 _ hb, fun v hv => by cases hv⟩
  | ok t => exact loopR_pres P Q h k (i + 1) t (h0.2 _ hb)
theorem held_le {b : Nat → Int → Except Int Int} (h : ∀ j u, u ≤ 9223372036854775807 → (∀ e, b j u = .error e → e ≤ 9223372036854775807) ∧ (∀ v, b j u = .ok v → v ≤ 9223372036854775807)) (k i : Nat) (s : Int) (hs : s ≤ 9223372036854775807) :
  (match loopR b k i s with | .error e => e | .ok v => v) ≤ 9223372036854775807 := by
 have := loopR_pres (fun x => x ≤ 9223372036854775807) (fun x => x ≤ 9223372036854775807) h k i s hs
 cases hl : loopR b k i s with
 | error e => exact this.1 _ hl
 | ok v => exact this.2 _ hl
theorem heldInt64S_le (a : List Int) (k : Int) (h : k ≤ 9223372036854775807) : zm a k ≤ 9223372036854775807 := by
 unfold zm
 refine held_le (fun j u hu => ?_) _ _ _ h
 simp only [zm_b1, Bool.cond_eq_ite]
 (repeat' split) <;> refine ⟨fun e he => ?_, fun v hv => ?_⟩ <;> first | (cases he <;> first | exact wrap_le _ | decide) | (cases hv <;> first | exact wrap_le _ | decide)
theorem heldSectorS_le (a : List Sector) (k : Int) (h : k ≤ 9223372036854775807) : zib a k ≤ 9223372036854775807 := by
 unfold zib
 refine held_le (fun j u hu => ?_) _ _ _ h
 simp only [zib_b1, Bool.cond_eq_ite]
 (repeat' split) <;> refine ⟨fun e he => ?_, fun v hv => ?_⟩ <;> first | (cases he <;> first | exact wrap_le _ | decide) | (cases hv <;> first | exact wrap_le _ | decide)
end Go.Ab

namespace Go.Ab
open Go Go.Proofs
def mkInt64 (v : Int) : Int := v
theorem za_len (a : List Int) (k : Int) : (za a k).2.length = a.length := by
 unfold za
 obtain ⟨t, h1, h2⟩ := loopR_total (b := za_b1 a k) (fun _ s => s.2.length = a.length) (k := a.length - 0) (i := 0) (s := (k, a)) rfl (by
  intro j u _ _ h
  exact ⟨_, rfl, by simpa using h⟩)
 rw [h1]
 exact h2
theorem za_sub (a : List Int) (k : Int) : subL (za a k).2 0 a.length = (za a k).2 := by
 rw [← za_len a k]; exact subL_all _
theorem za_eq (a : List Int) (k : Int) (h0 : 0 ≤ k) (h1 : k + 1 * a.length < 4611686018427387904) : za a k = (k + 1 * a.length, (List.range a.length).map (fun j : Nat => mkInt64 (k + 1 * j))) := by
 unfold za
 obtain ⟨t, q1, q2, q3, q4⟩ := loopR_total (b := za_b1 a k) (fun i s => s.1 = k + 1 * i ∧ s.2.length = a.length ∧ ∀ j, j < i → s.2.getD j default = mkInt64 (k + 1 * j)) (k := a.length - 0) (i := 0) (s := (k, a)) ⟨by simp, rfl, by intro j hj; omega⟩ (by
  intro j u _ hj ⟨h2, h3, h4⟩
  have w1 : ∀ m : Int, 0 ≤ m → m < 4611686018427387904 → IntKind.wrap .i64 (m + 1) = m + 1 := by intro m _ _; rw [IntKind.wrap_i64]; omega
  have w0 : ∀ m : Int, 0 ≤ m → m < 4611686018427387904 → IntKind.wrap .i64 m = m := by intro m _ _; rw [IntKind.wrap_i64]; omega
  refine ⟨_, rfl, ?_, ?_, ?_⟩
  ·simp only [h2, IntKind.wrap_i64]; omega
  ·simpa using h3
  ·intro q hq
   simp only
   rw [lgetD_set]
   by_cases h : q = j
   ·subst h
    rw [if_pos ⟨rfl, by omega⟩, h2]
    simp only [mkInt64]
    all_goals (try rw [Int.mk.injEq])
    all_goals (and_intros <;> first | rfl | trivial | (simp only [IntKind.wrap_i64]; omega) | (congr 1; (simp only [IntKind.wrap_i64]; omega)))
   ·rw [if_neg (fun hh => h hh.1)]
    exact h4 q (by omega))
 rw [q1]
 simp only [Nat.zero_add, Nat.sub_zero] at q2 q4
 simp only [q2]
 congr 1
 apply getD_ext
 ·simpa using q3
 ·intro i hi
  rw [q4 i (by omega)]
  simp [List.getD_eq_getElem?_getD]
  rw [List.getElem?_range (by omega)]
  rfl
theorem za_k (a : List Int) (k : Int) (h0 : 0 ≤ k) (h1 : k ≤ 1152921504606846976) (hl : a.length < 1099511627776) : (za a k).1 = k + 1 * a.length := by
 rw [za_eq a k h0 (by omega)]
theorem zm_mark (a : List Int) (k : Int) (h0 : 0 ≤ k) (hk : k ≤ 1152921504606846976) (h1 : a.length < 1099511627776) : zm (za a k).2 k = (za a k).1 ∧ ¬ (za a k).1 < 0 := by
 rw [za_eq a k h0 (by omega)]
 refine ⟨?_, by simp only; omega⟩
 simp only
 unfold zm
 obtain ⟨t, q1, q2⟩ := loopR_total (b := zm_b1 ((List.range a.length).map (fun j : Nat => mkInt64 (k + 1 * j))) k) (fun i s => s = k + 1 * (i : Int)) (k := ((List.range a.length).map (fun j : Nat => mkInt64 (k + 1 * j))).length - 0) (i := 0) (s := k) (by simp) (by
  intro j u _ hj h2
  have hj2 : j < a.length := by simpa using hj
  have hg : ((List.range a.length).map (fun j : Nat => mkInt64 (k + 1 * j))).getD j default = mkInt64 (k + 1 * j) := by
   simp [List.getD_eq_getElem?_getD, hj2]
  subst h2
  refine ⟨k + 1 * ((j + 1 : Nat) : Int), ?_, rfl⟩
  have e1 : ∀ m : Int, 0 ≤ m → m < 4611686018427387904 → (m + 9223372036854775808) % 18446744073709551616 - 9223372036854775808 = m := by intro m _ _; omega
  simp only [zm_b1]
  simp only [hg]
  simp only [mkInt64, IntKind.wrap_i64]
  (repeat rw [e1 _ (by omega) (by omega)])
  simp only [Int.add_assoc, Int.reduceAdd, bne_self_eq_false, cond_false, Except.ok.injEq]
  omega)
 rw [q1]
 simp only [q2]
 simp
end Go.Ab

namespace Go.Ab
open Go Go.Proofs
theorem wr1 {k : Int} (h0 : 0 ≤ k) (h1 : k < 4611686018427387904) : IntKind.wrap .i64 (k + 1) = k + 1 := by rw [IntKind.wrap_i64]; omega
def sectorStep (x : Sector) (k : Int) : Int × Sector :=
 (IntKind.wrap .i64 ((IntKind.wrap .i64 ((IntKind.wrap .i64 (k + 1)) + 1)) + 1), { From := k, To := IntKind.wrap .i64 (k + 1), Color := (zf (IntKind.wrap .i64 ((IntKind.wrap .i64 (k + 1)) + 1))) : Sector })
theorem sectorStep_k (x : Sector) (k : Int) (h0 : 0 ≤ k) (h1 : k ≤ 2305843009213693952) : (sectorStep x k).1 = k + 3 := by
 unfold sectorStep
 simp (disch := omega) only [wr1]
 omega
theorem markSectorS_R (a : List Sector) (k : Int) : zk a k = markR sectorStep a k := by
 unfold zk
 have := markR_loop sectorStep (zk_b1 a k) (fun i s => rfl) a [] k
 simp only [List.length_nil, List.nil_append, Nat.sub_zero] at this ⊢
 rw [this]
theorem markR_k3 : ∀ (a : List Sector) (k : Int), 0 ≤ k → k + 3 * a.length ≤ 2305843009213693952 → (markR sectorStep a k).1 = k + 3 * a.length
 | [], k, _, _ => by simp [markR]
 | x :: a, k, h0, h1 => by
  simp only [List.length_cons] at h1 ⊢
  simp only [markR]
  have hk := sectorStep_k x k h0 (by omega)
  rw [markR_k3 a _ (by omega) (by omega), hk]
  omega
theorem markSectorS_k (a : List Sector) (k : Int) (h0 : 0 ≤ k) (h1 : k ≤ 1152921504606846976) (hl : a.length ≤ 1099511627776) : (zk a k).1 = k + 3 * a.length := by
 rw [markSectorS_R, markR_k3 a k h0 (by omega)]
theorem heldSectorS_mark (a : List Sector) (k : Int) (h0 : 0 ≤ k) (h1 : k ≤ 1152921504606846976) (hl : a.length ≤ 1099511627776) : zib (zk a k).2 k = (zk a k).1 ∧ ¬ (zk a k).1 < 0 := by
 refine ⟨?_, by rw [markSectorS_k a k h0 h1 hl]; omega⟩
 rw [markSectorS_R]
 unfold zib
 rw [markR_len, Nat.sub_zero]
 rw [markR_held sectorStep (zib_b1 (markR sectorStep a k).2 k) (fun _ => True) 3 2305843009213693952 (by omega) (fun x k _ g0 g1 => by rw [sectorStep_k x k g0 g1]; omega) a 0 k (fun _ _ => trivial) h0 (by omega) (fun j x s _ g0 g1 g2 => by
  have e : (markR sectorStep a k).2.getD (0 + j) default = (sectorStep x s).2 := by rw [Nat.zero_add, List.getD_eq_getElem?_getD, g2]; rfl
  simp only [zib_b1, e]
  simp only [sectorStep, bne_self_eq_false, cond_false])]
end Go.Ab

namespace Go.Ab
open Go Go.Proofs
def zt_b1 (a0 : (List Aid)) (a1 : Int) (i1 : Nat) (s1 : Int × List Aid) : Except (Int × (List Aid)) (Int × List Aid) :=
 .ok (IntKind.wrap .i64 (((zk ((s1.2.getD i1 default).Sectors) (IntKind.wrap .i64 ((IntKind.wrap .i64 ((IntKind.wrap .i64 (((za (((s1.2.getD i1 default).Light).Group) (IntKind.wrap .i64 ((IntKind.wrap .i64 ((IntKind.wrap .i64 ((IntKind.wrap .i64 ((IntKind.wrap .i64 ((IntKind.wrap .i64 ((IntKind.wrap .i64 ((IntKind.wrap .i64 ((IntKind.wrap .i64 ((IntKind.wrap .i64 (s1.1 + 1)) + 1)) + 1)) + 1)) + 1)) + 1)) + 1)) + 1)) + 1)) + 1))).1) + 1)) + 1)) + 1))).1) + 1), s1.2.set i1 ({ Number := s1.1, Name := (zf (IntKind.wrap .i64 (s1.1 + 1))), At := { X := IntKind.wrap .i64 ((IntKind.wrap .i64 (s1.1 + 1)) + 1), Y := IntKind.wrap .i64 ((IntKind.wrap .i64 ((IntKind.wrap .i64 (s1.1 + 1)) + 1)) + 1) : Point }, Height := IntKind.wrap .i64 ((IntKind.wrap .i64 ((IntKind.wrap .i64 ((IntKind.wrap .i64 (s1.1 + 1)) + 1)) + 1)) + 1), Mark := { Kind := IntKind.wrap .i64 ((IntKind.wrap .i64 ((IntKind.wrap .i64 ((IntKind.wrap .i64 ((IntKind.wrap .i64 (s1.1 + 1)) + 1)) + 1)) + 1)) + 1), Colors := (zf (IntKind.wrap .i64 ((IntKind.wrap .i64 ((IntKind.wrap .i64 ((IntKind.wrap .i64 ((IntKind.wrap .i64 ((IntKind.wrap .i64 (s1.1 + 1)) + 1)) + 1)) + 1)) + 1)) + 1))), Shape := (zf (IntKind.wrap .i64 ((IntKind.wrap .i64 ((IntKind.wrap .i64 ((IntKind.wrap .i64 ((IntKind.wrap .i64 ((IntKind.wrap .i64 ((IntKind.wrap .i64 (s1.1 + 1)) + 1)) + 1)) + 1)) + 1)) + 1)) + 1))), Topmark := (zf (IntKind.wrap .i64 ((IntKind.wrap .i64 ((IntKind.wrap .i64 ((IntKind.wrap .i64 ((IntKind.wrap .i64 ((IntKind.wrap .i64 ((IntKind.wrap .i64 ((IntKind.wrap .i64 (s1.1 + 1)) + 1)) + 1)) + 1)) + 1)) + 1)) + 1)) + 1))) : Mark }, Light := { Kind := IntKind.wrap .i64 ((IntKind.wrap .i64 ((IntKind.wrap .i64 ((IntKind.wrap .i64 ((IntKind.wrap .i64 ((IntKind.wrap .i64 ((IntKind.wrap .i64 ((IntKind.wrap .i64 ((IntKind.wrap .i64 (s1.1 + 1)) + 1)) + 1)) + 1)) + 1)) + 1)) + 1)) + 1)) + 1), Group := (za (((s1.2.getD i1 default).Light).Group) (IntKind.wrap .i64 ((IntKind.wrap .i64 ((IntKind.wrap .i64 ((IntKind.wrap .i64 ((IntKind.wrap .i64 ((IntKind.wrap .i64 ((IntKind.wrap .i64 ((IntKind.wrap .i64 ((IntKind.wrap .i64 ((IntKind.wrap .i64 (s1.1 + 1)) + 1)) + 1)) + 1)) + 1)) + 1)) + 1)) + 1)) + 1)) + 1))).2, Letter := (zf ((za (((s1.2.getD i1 default).Light).Group) (IntKind.wrap .i64 ((IntKind.wrap .i64 ((IntKind.wrap .i64 ((IntKind.wrap .i64 ((IntKind.wrap .i64 ((IntKind.wrap .i64 ((IntKind.wrap .i64 ((IntKind.wrap .i64 ((IntKind.wrap .i64 ((IntKind.wrap .i64 (s1.1 + 1)) + 1)) + 1)) + 1)) + 1)) + 1)) + 1)) + 1)) + 1)) + 1))).1)), Colors := (zf (IntKind.wrap .i64 (((za (((s1.2.getD i1 default).Light).Group) (IntKind.wrap .i64 ((IntKind.wrap .i64 ((IntKind.wrap .i64 ((IntKind.wrap .i64 ((IntKind.wrap .i64 ((IntKind.wrap .i64 ((IntKind.wrap .i64 ((IntKind.wrap .i64 ((IntKind.wrap .i64 ((IntKind.wrap .i64 (s1.1 + 1)) + 1)) + 1)) + 1)) + 1)) + 1)) + 1)) + 1)) + 1)) + 1))).1) + 1))), Period := IntKind.wrap .i64 ((IntKind.wrap .i64 (((za (((s1.2.getD i1 default).Light).Group) (IntKind.wrap .i64 ((IntKind.wrap .i64 ((IntKind.wrap .i64 ((IntKind.wrap .i64 ((IntKind.wrap .i64 ((IntKind.wrap .i64 ((IntKind.wrap .i64 ((IntKind.wrap .i64 ((IntKind.wrap .i64 ((IntKind.wrap .i64 (s1.1 + 1)) + 1)) + 1)) + 1)) + 1)) + 1)) + 1)) + 1)) + 1)) + 1))).1) + 1)) + 1) : Character }, Sectors := (zk ((s1.2.getD i1 default).Sectors) (IntKind.wrap .i64 ((IntKind.wrap .i64 ((IntKind.wrap .i64 (((za (((s1.2.getD i1 default).Light).Group) (IntKind.wrap .i64 ((IntKind.wrap .i64 ((IntKind.wrap .i64 ((IntKind.wrap .i64 ((IntKind.wrap .i64 ((IntKind.wrap .i64 ((IntKind.wrap .i64 ((IntKind.wrap .i64 ((IntKind.wrap .i64 ((IntKind.wrap .i64 (s1.1 + 1)) + 1)) + 1)) + 1)) + 1)) + 1)) + 1)) + 1)) + 1)) + 1))).1) + 1)) + 1)) + 1))).2, Intensity := ((zk ((s1.2.getD i1 default).Sectors) (IntKind.wrap .i64 ((IntKind.wrap .i64 ((IntKind.wrap .i64 (((za (((s1.2.getD i1 default).Light).Group) (IntKind.wrap .i64 ((IntKind.wrap .i64 ((IntKind.wrap .i64 ((IntKind.wrap .i64 ((IntKind.wrap .i64 ((IntKind.wrap .i64 ((IntKind.wrap .i64 ((IntKind.wrap .i64 ((IntKind.wrap .i64 ((IntKind.wrap .i64 (s1.1 + 1)) + 1)) + 1)) + 1)) + 1)) + 1)) + 1)) + 1)) + 1)) + 1))).1) + 1)) + 1)) + 1))).1) : Aid }))
def zt (a0 : (List Aid)) (a1 : Int) : Int × (List Aid) :=
 (match loopR (zt_b1 a0 a1) (a0.length - 0) 0 (a1, a0) with | .error e => e | .ok s1 => (s1.1, s1.2))
namespace N28
theorem DD : DOk Tryz.prog (Go.Ab.DD [(20, dM [true, false] D_za), (75, dP D_zf), (76, dM [true, false] D_zk)]) := DD_cons D_za_ok.e <| DD_cons D_zf_ok.e <| DD_cons D_zk_ok.e <| DD_nil _
theorem dn : type_of% (And.intro @D_za.eq_1 <| And.intro @D_zf.eq_1 <| And.intro @D_zk.eq_1 <| And.intro @za_sub <| @markSectorS_sub) := And.intro @D_za.eq_1 <| And.intro @D_zf.eq_1 <| And.intro @D_zk.eq_1 <| And.intro @za_sub <| @markSectorS_sub
theorem ol : type_of% (And.intro @za_len <| @markSectorS_len) := And.intro @za_len <| @markSectorS_len
theorem gr {p : Prop} (h : p := by (grind [za_len, markSectorS_le]); first | done | fail) : p := h
theorem o1 {p : Prop} (h : p := by (first | (exact mrg) | (first | exact markInt64S_le _ _ (by exact mrg) | exact markSectorS_le _ _ (by exact mrg) | exact markInt64S_le _ _ (wrap_le _) | exact markSectorS_le _ _ (wrap_le _))); first | done | fail) : p := h
theorem o2 {p : Prop} (h : p := by (first | (and_intros <;> first | rfl | decide | (rw [IntKind.wrap_i64]; omega) | (simp only [List.length_set]; (first | done | fail)) | (intro j hj; by_cases hji : j = i1; (focus (subst hji; simp only [set_same hj, Nat.beq_refl, beq_self_eq_true, cond_true, ol]; first | (first | done | fail) | rfl | (and_intros <;> rfl))); (simp only [set_other hji, beqF hji, cond_false]; first | (first | done | fail) | rfl | (and_intros <;> rfl))))); first | done | fail) : p := h
set_option maxHeartbeats 4000000 in
set_option maxRecDepth 20000 in
theorem den (a0 : (List Aid)) (a1 : Int) (hp0 : a1 ≤ 9223372036854775807) : DenD Tryz.prog 28 [ownL 63 16 eAidO a0, .int .i64 a1] (.int .i64 ((zt a0 a1).1)) [(ownL 63 16 eAidO ((zt a0 a1).2)), .any] := by
 generalize hR : zt a0 a1 = r
 unfold zt at hR
 refine den_introD (gb := [true, false]) G_ok Tryz.func28 (by kernel_rfl) rfl Tryz.ntmps28 (by rw [Tryz.results28]) (by simp) ?_
 intro c hdp hL hc hk
 obtain ⟨hL0, hL1, _⟩ := hL
 have hw0 : a0.length < 9223372036854775808 := Nat.lt_succ_of_le (lens_ownL hL0).1
 have hw1 : ∀ v ∈ a0, bwAid v := fun v hv => Aid_lensO v ((lens_ownL hL0).2 v hv)
 clear hL0 hL1
 simp only [adEL, adE, adRL, adR, ownL, encL, sv, List.nil_append, List.append_nil, List.cons_append, List.length_cons, List.length_nil, pars, Nat.zero_add, Nat.reduceAdd] at hk ⊢
 iterate 2 refine rS ?_
 refine AWP.block ?_
 generalize hz1 : loopR (zt_b1 a0 a1) (a0.length - 0) 0 (a1, a0) = z1 at hR
 refine AWP.range (zt_b1 a0 a1) (fun i1 s1 => ⟨[(0, .ref 0 16 0 s1.2.length), (1, .int .i64 s1.1), (5, .int .i64 (i1 : Int))], [.arr 63 16 s1.2.length (fun j => eAidO (s1.2.getD j default))]⟩) (fun i1 s1 => s1.2.length = a0.length ∧ s1.1 ≤ 9223372036854775807) (a0.length) 0 (a1, a0) [0] hz1 ot wt sm ?_
 clear hz1
 intro i1 s1 hi1 hW1 hz1
 refine rS ?_
 refine AWP.cond rfl (fun hb => ?_) (fun hb => ?_)
 ·have hlt1 : i1 < a0.length := ot
  rw [loopR_lt hlt1] at hz1; simp only [zt_b1] at hz1
  iterate 4 refine rS ?_
  refine AWP.keepT [0, 1, 5] ?_; simp only [List.map, putL, dropL, Nat.beq_refl, cond_true, ea, absV, absVL, cput, gv, sv, dn, reduceCtorEq, reduceIte, Nat.reduceBEq, Nat.reduceAdd, Nat.reduceEqDiff, Nat.reduceLT, Nat.reduceLeDiff, Nat.reduceMul, Nat.reduceSub, BEq.rfl, beq_self_eq_true, Int.reduceToNat]
  iterate 5 refine rS ?_
  refine AWP.keepT [0, 1, 5] ?_; simp only [List.map, putL, dropL, Nat.beq_refl, cond_true, ea, absV, absVL, cput, gv, sv, dn, reduceCtorEq, reduceIte, Nat.reduceBEq, Nat.reduceAdd, Nat.reduceEqDiff, Nat.reduceLT, Nat.reduceLeDiff, Nat.reduceMul, Nat.reduceSub, BEq.rfl, beq_self_eq_true, Int.reduceToNat]
  iterate 5 refine rS ?_
  refine AWP.keepT [0, 1, 5] ?_; simp only [List.map, putL, dropL, Nat.beq_refl, cond_true, ea, absV, absVL, cput, gv, sv, dn, reduceCtorEq, reduceIte, Nat.reduceBEq, Nat.reduceAdd, Nat.reduceEqDiff, Nat.reduceLT, Nat.reduceLeDiff, Nat.reduceMul, Nat.reduceSub, BEq.rfl, beq_self_eq_true, Int.reduceToNat]
  iterate 5 refine rS ?_
  refine AWP.keepT [0, 1, 5] ?_; simp only [List.map, putL, dropL, Nat.beq_refl, cond_true, ea, absV, absVL, cput, gv, sv, dn, reduceCtorEq, reduceIte, Nat.reduceBEq, Nat.reduceAdd, Nat.reduceEqDiff, Nat.reduceLT, Nat.reduceLeDiff, Nat.reduceMul, Nat.reduceSub, BEq.rfl, beq_self_eq_true, Int.reduceToNat]
  refine rS ?_
  refine AWP.seq ?_
  refine AWP.openE rb 0 0 i1 10 rfl rfl ot (by simp only [putL, dropL, Nat.beq_refl, cond_true, ea, absV, absVL, cput, gv, sv, dn, reduceCtorEq, reduceIte, Nat.reduceBEq, Nat.reduceAdd, Nat.reduceEqDiff, Nat.reduceLT, Nat.reduceLeDiff, Nat.reduceMul, Nat.reduceSub, BEq.rfl, beq_self_eq_true, Int.reduceToNat]; rfl) ?_; simp only [putL, dropL, Nat.beq_refl, cond_true, ea, absV, absVL, cput, gv, sv, dn, reduceCtorEq, reduceIte, Nat.reduceBEq, Nat.reduceAdd, Nat.reduceEqDiff, Nat.reduceLT, Nat.reduceLeDiff, Nat.reduceMul, Nat.reduceSub, BEq.rfl, beq_self_eq_true, Int.reduceToNat]
  refine rS ?_
  simp only [ol]
  refine AWP.closeE 0 0 i1 10 1 rfl rfl rfl (by decide) ot (by simp only [putL, dropL, Nat.beq_refl, cond_true, ea, absV, absVL, cput, gv, sv, dn, reduceCtorEq, reduceIte, Nat.reduceBEq, Nat.reduceAdd, Nat.reduceEqDiff, Nat.reduceLT, Nat.reduceLeDiff, Nat.reduceMul, Nat.reduceSub, BEq.rfl, beq_self_eq_true, Int.reduceToNat]; rfl) (fun k hk => by rfl) ?_; simp only [putL, dropL, Nat.beq_refl, cond_true, ea, absV, absVL, cput, gv, sv, dn, reduceCtorEq, reduceIte, Nat.reduceBEq, Nat.reduceAdd, Nat.reduceEqDiff, Nat.reduceLT, Nat.reduceLeDiff, Nat.reduceMul, Nat.reduceSub, BEq.rfl, beq_self_eq_true, Int.reduceToNat]
  iterate 3 refine rS ?_
  refine AWP.keepT [0, 1, 5] ?_; simp only [List.map, putL, dropL, Nat.beq_refl, cond_true, ea, absV, absVL, cput, gv, sv, dn, reduceCtorEq, reduceIte, Nat.reduceBEq, Nat.reduceAdd, Nat.reduceEqDiff, Nat.reduceLT, Nat.reduceLeDiff, Nat.reduceMul, Nat.reduceSub, BEq.rfl, beq_self_eq_true, Int.reduceToNat]
  iterate 3 refine rS ?_
  refine AWP.seq ?_
  refine AWP.openE rb 0 0 i1 14 rfl rfl ot (by simp only [putL, dropL, Nat.beq_refl, cond_true, ea, absV, absVL, cput, gv, sv, dn, reduceCtorEq, reduceIte, Nat.reduceBEq, Nat.reduceAdd, Nat.reduceEqDiff, Nat.reduceLT, Nat.reduceLeDiff, Nat.reduceMul, Nat.reduceSub, BEq.rfl, beq_self_eq_true, Int.reduceToNat]; rfl) ?_; simp only [putL, dropL, Nat.beq_refl, cond_true, ea, absV, absVL, cput, gv, sv, dn, reduceCtorEq, reduceIte, Nat.reduceBEq, Nat.reduceAdd, Nat.reduceEqDiff, Nat.reduceLT, Nat.reduceLeDiff, Nat.reduceMul, Nat.reduceSub, BEq.rfl, beq_self_eq_true, Int.reduceToNat]
  refine rS ?_
  simp only [ol]
  refine AWP.closeE 0 0 i1 14 2 rfl rfl rfl (by decide) ot (by simp only [putL, dropL, Nat.beq_refl, cond_true, ea, absV, absVL, cput, gv, sv, dn, reduceCtorEq, reduceIte, Nat.reduceBEq, Nat.reduceAdd, Nat.reduceEqDiff, Nat.reduceLT, Nat.reduceLeDiff, Nat.reduceMul, Nat.reduceSub, BEq.rfl, beq_self_eq_true, Int.reduceToNat]; rfl) (fun k hk => by rfl) ?_; simp only [putL, dropL, Nat.beq_refl, cond_true, ea, absV, absVL, cput, gv, sv, dn, reduceCtorEq, reduceIte, Nat.reduceBEq, Nat.reduceAdd, Nat.reduceEqDiff, Nat.reduceLT, Nat.reduceLeDiff, Nat.reduceMul, Nat.reduceSub, BEq.rfl, beq_self_eq_true, Int.reduceToNat]
  refine rS ?_
  refine AWP.keepT [0, 1, 5] ?_; simp only [List.map, putL, dropL, Nat.beq_refl, cond_true, ea, absV, absVL, cput, gv, sv, dn, reduceCtorEq, reduceIte, Nat.reduceBEq, Nat.reduceAdd, Nat.reduceEqDiff, Nat.reduceLT, Nat.reduceLeDiff, Nat.reduceMul, Nat.reduceSub, BEq.rfl, beq_self_eq_true, Int.reduceToNat]
  iterate 2 refine rS ?_
  exact ⟨_, [0], hlt1, by (exact mrg), hz1, sm⟩
 ·obtain rfl : i1 = a0.length := ot
  rw [loopR_ge (Nat.le_refl _)] at hz1; subst hz1; dsimp only at hR
  refine AWP.exit ?_; refine exitTo_here ?_
  refine rS ?_
  refine AWP.ret ?_
  subst hR
  exact es
end N28
end Go.Ab

namespace Go.Ab
open Go Go.Proofs
def zvb_b1 (a0 : (List Aid)) (a1 : Int) (i1 : Nat) (s1 : Int) : Except (Int) (Int) :=
 (bif (((a0.getD i1 default).Number) != s1) then .error (-1) else (bif (((a0.getD i1 default).Name) != (zf (IntKind.wrap .i64 (s1 + 1)))) then .error (-1) else (bif ((((a0.getD i1 default).At).X) != (IntKind.wrap .i64 ((IntKind.wrap .i64 (s1 + 1)) + 1))) then .error (-1) else (bif ((((a0.getD i1 default).At).Y) != (IntKind.wrap .i64 ((IntKind.wrap .i64 ((IntKind.wrap .i64 (s1 + 1)) + 1)) + 1))) then .error (-1) else (bif (((a0.getD i1 default).Height) != (IntKind.wrap .i64 ((IntKind.wrap .i64 ((IntKind.wrap .i64 ((IntKind.wrap .i64 (s1 + 1)) + 1)) + 1)) + 1))) then .error (-1) else (bif ((((a0.getD i1 default).Mark).Kind) != (IntKind.wrap .i64 ((IntKind.wrap .i64 ((IntKind.wrap .i64 ((IntKind.wrap .i64 ((IntKind.wrap .i64 (s1 + 1)) + 1)) + 1)) + 1)) + 1))) then .error (-1) else (bif ((((a0.getD i1 default).Mark).Colors) != (zf (IntKind.wrap .i64 ((IntKind.wrap .i64 ((IntKind.wrap .i64 ((IntKind.wrap .i64 ((IntKind.wrap .i64 ((IntKind.wrap .i64 (s1 + 1)) + 1)) + 1)) + 1)) + 1)) + 1)))) then .error (-1) else (bif ((((a0.getD i1 default).Mark).Shape) != (zf (IntKind.wrap .i64 ((IntKind.wrap .i64 ((IntKind.wrap .i64 ((IntKind.wrap .i64 ((IntKind.wrap .i64 ((IntKind.wrap .i64 ((IntKind.wrap .i64 (s1 + 1)) + 1)) + 1)) + 1)) + 1)) + 1)) + 1)))) then .error (-1) else (bif ((((a0.getD i1 default).Mark).Topmark) != (zf (IntKind.wrap .i64 ((IntKind.wrap .i64 ((IntKind.wrap .i64 ((IntKind.wrap .i64 ((IntKind.wrap .i64 ((IntKind.wrap .i64 ((IntKind.wrap .i64 ((IntKind.wrap .i64 (s1 + 1)) + 1)) + 1)) + 1)) + 1)) + 1)) + 1)) + 1)))) then .error (-1) else (bif ((((a0.getD i1 default).Light).Kind) != (IntKind.wrap .i64 ((IntKind.wrap .i64 ((IntKind.wrap .i64 ((IntKind.wrap .i64 ((IntKind.wrap .i64 ((IntKind.wrap .i64 ((IntKind.wrap .i64 ((IntKind.wrap .i64 ((IntKind.wrap .i64 (s1 + 1)) + 1)) + 1)) + 1)) + 1)) + 1)) + 1)) + 1)) + 1))) then .error (-1) else (bif decide ((zm (((a0.getD i1 default).Light).Group) (IntKind.wrap .i64 ((IntKind.wrap .i64 ((IntKind.wrap .i64 ((IntKind.wrap .i64 ((IntKind.wrap .i64 ((IntKind.wrap .i64 ((IntKind.wrap .i64 ((IntKind.wrap .i64 ((IntKind.wrap .i64 ((IntKind.wrap .i64 (s1 + 1)) + 1)) + 1)) + 1)) + 1)) + 1)) + 1)) + 1)) + 1)) + 1))) < 0) then .error (-1) else (bif ((((a0.getD i1 default).Light).Letter) != (zf (zm (((a0.getD i1 default).Light).Group) (IntKind.wrap .i64 ((IntKind.wrap .i64 ((IntKind.wrap .i64 ((IntKind.wrap .i64 ((IntKind.wrap .i64 ((IntKind.wrap .i64 ((IntKind.wrap .i64 ((IntKind.wrap .i64 ((IntKind.wrap .i64 ((IntKind.wrap .i64 (s1 + 1)) + 1)) + 1)) + 1)) + 1)) + 1)) + 1)) + 1)) + 1)) + 1))))) then .error (-1) else (bif ((((a0.getD i1 default).Light).Colors) != (zf (IntKind.wrap .i64 ((zm (((a0.getD i1 default).Light).Group) (IntKind.wrap .i64 ((IntKind.wrap .i64 ((IntKind.wrap .i64 ((IntKind.wrap .i64 ((IntKind.wrap .i64 ((IntKind.wrap .i64 ((IntKind.wrap .i64 ((IntKind.wrap .i64 ((IntKind.wrap .i64 ((IntKind.wrap .i64 (s1 + 1)) + 1)) + 1)) + 1)) + 1)) + 1)) + 1)) + 1)) + 1)) + 1))) + 1)))) then .error (-1) else (bif ((((a0.getD i1 default).Light).Period) != (IntKind.wrap .i64 ((IntKind.wrap .i64 ((zm (((a0.getD i1 default).Light).Group) (IntKind.wrap .i64 ((IntKind.wrap .i64 ((IntKind.wrap .i64 ((IntKind.wrap .i64 ((IntKind.wrap .i64 ((IntKind.wrap .i64 ((IntKind.wrap .i64 ((IntKind.wrap .i64 ((IntKind.wrap .i64 ((IntKind.wrap .i64 (s1 + 1)) + 1)) + 1)) + 1)) + 1)) + 1)) + 1)) + 1)) + 1)) + 1))) + 1)) + 1))) then .error (-1) else (bif decide ((zib ((a0.getD i1 default).Sectors) (IntKind.wrap .i64 ((IntKind.wrap .i64 ((IntKind.wrap .i64 ((zm (((a0.getD i1 default).Light).Group) (IntKind.wrap .i64 ((IntKind.wrap .i64 ((IntKind.wrap .i64 ((IntKind.wrap .i64 ((IntKind.wrap .i64 ((IntKind.wrap .i64 ((IntKind.wrap .i64 ((IntKind.wrap .i64 ((IntKind.wrap .i64 ((IntKind.wrap .i64 (s1 + 1)) + 1)) + 1)) + 1)) + 1)) + 1)) + 1)) + 1)) + 1)) + 1))) + 1)) + 1)) + 1))) < 0) then .error (-1) else (bif (((a0.getD i1 default).Intensity) != (zib ((a0.getD i1 default).Sectors) (IntKind.wrap .i64 ((IntKind.wrap .i64 ((IntKind.wrap .i64 ((zm (((a0.getD i1 default).Light).Group) (IntKind.wrap .i64 ((IntKind.wrap .i64 ((IntKind.wrap .i64 ((IntKind.wrap .i64 ((IntKind.wrap .i64 ((IntKind.wrap .i64 ((IntKind.wrap .i64 ((IntKind.wrap .i64 ((IntKind.wrap .i64 ((IntKind.wrap .i64 (s1 + 1)) + 1)) + 1)) + 1)) + 1)) + 1)) + 1)) + 1)) + 1)) + 1))) + 1)) + 1)) + 1)))) then .error (-1) else .ok (IntKind.wrap .i64 ((zib ((a0.getD i1 default).Sectors) (IntKind.wrap .i64 ((IntKind.wrap .i64 ((IntKind.wrap .i64 ((zm (((a0.getD i1 default).Light).Group) (IntKind.wrap .i64 ((IntKind.wrap .i64 ((IntKind.wrap .i64 ((IntKind.wrap .i64 ((IntKind.wrap .i64 ((IntKind.wrap .i64 ((IntKind.wrap .i64 ((IntKind.wrap .i64 ((IntKind.wrap .i64 ((IntKind.wrap .i64 (s1 + 1)) + 1)) + 1)) + 1)) + 1)) + 1)) + 1)) + 1)) + 1)) + 1))) + 1)) + 1)) + 1))) + 1))))))))))))))))))
def zvb (a0 : (List Aid)) (a1 : Int) : Int :=
 (match loopR (zvb_b1 a0 a1) (a0.length - 0) 0 a1 with | .error e => e | .ok s1 => s1)
namespace N37
theorem DD : DOk Tryz.prog (Go.Ab.DD [(21, dP D_zm), (75, dP D_zf), (83, dP D_zib)]) := DD_cons D_zm_ok.e <| DD_cons D_zf_ok.e <| DD_cons D_zib_ok.e <| DD_nil _
theorem dn : type_of% (And.intro @D_zm.eq_1 <| And.intro @D_zf.eq_1 <| And.intro @D_zib.eq_1 <| And.intro @za_sub <| @markSectorS_sub) := And.intro @D_zm.eq_1 <| And.intro @D_zf.eq_1 <| And.intro @D_zib.eq_1 <| And.intro @za_sub <| @markSectorS_sub
theorem ol : type_of% (And.intro @za_len <| @markSectorS_len) := And.intro @za_len <| @markSectorS_len
theorem gr {p : Prop} (h : p := by (grind [za_len, markSectorS_le]); first | done | fail) : p := h
theorem o1 {p : Prop} (h : p := by (first | (exact mrg) | (exact heldInt64S_le _ _ (by exact mrg)) | (exact heldSectorS_le _ _ (by exact mrg))); first | done | fail) : p := h
set_option maxHeartbeats 4000000 in
set_option maxRecDepth 20000 in
theorem den (a0 : (List Aid)) (a1 : Int) (hp0 : a1 ≤ 9223372036854775807) : Den Tryz.prog 37 [encL 16 eAid a0, .int .i64 a1] (.int .i64 (zvb a0 a1)) := by
 generalize hR : zvb a0 a1 = r
 unfold zvb at hR
 refine di Tryz.func37 Tryz.ntmps37 Tryz.results37 ?_
 intro c hL hc hk
 obtain ⟨hL0, hL1, _⟩ := hL
 have hw0 : a0.length < 9223372036854775808 := Nat.lt_succ_of_le (lens_encL hL0).1
 have hw1 : ∀ v ∈ a0, bwAid v := fun v hv => Aid_lens v ((lens_encL hL0).2 v hv)
 clear hL0 hL1
 simp only [pars, Nat.zero_add]
 iterate 2 refine rS ?_
 refine AWP.block ?_
 generalize hz1 : loopR (zvb_b1 a0 a1) (a0.length - 0) 0 a1 = z1 at hR
 refine AWP.range (zvb_b1 a0 a1) (fun i1 s1 => ⟨[(0, encL 16 eAid a0), (1, .int .i64 s1), (5, .int .i64 (i1 : Int))], []⟩) (fun i1 s1 => s1 ≤ 9223372036854775807) (a0.length) 0 a1 [] hz1 ot wt sm ?_
 clear hz1
 intro i1 s1 hi1 hW1 hz1
 refine rS ?_
 refine AWP.cond rfl (fun hb => ?_) (fun hb => ?_)
 ·have hlt1 : i1 < a0.length := ot
  rw [loopR_lt hlt1] at hz1; simp only [zvb_b1] at hz1
  refine rS ?_
  refine AWP.cond rfl (fun hb => ?_) (fun hb => ?_)
  ·simp only [hb, cond_true] at hz1
   refine rS ?_
   refine AWP.ret ?_
   subst hz1
   dsimp only at hR
   subst hR
   exact es
  ·simp only [hb, cond_false] at hz1
   refine rS ?_
   refine rD 7 ?_
   refine AWP.cond rfl (fun hb => ?_) (fun hb => ?_)
   ·simp only [hb, cond_true] at hz1
    refine rS ?_
    refine AWP.ret ?_
    subst hz1
    dsimp only at hR
    subst hR
    exact es
   ·simp only [hb, cond_false] at hz1
    iterate 2 refine rS ?_
    refine AWP.cond rfl (fun hb => ?_) (fun hb => ?_)
    ·simp only [hb, cond_true] at hz1
     refine rS ?_
     refine AWP.ret ?_
     subst hz1
     dsimp only at hR
     subst hR
     exact es
    ·simp only [hb, cond_false] at hz1
     iterate 2 refine rS ?_
     refine AWP.cond rfl (fun hb => ?_) (fun hb => ?_)
     ·simp only [hb, cond_true] at hz1
      refine rS ?_
      refine AWP.ret ?_
      subst hz1
      dsimp only at hR
      subst hR
      exact es
     ·simp only [hb, cond_false] at hz1
      iterate 2 refine rS ?_
      refine AWP.cond rfl (fun hb => ?_) (fun hb => ?_)
      ·simp only [hb, cond_true] at hz1
       refine rS ?_
       refine AWP.ret ?_
       subst hz1
       dsimp only at hR
       subst hR
       exact es
      ·simp only [hb, cond_false] at hz1
       iterate 2 refine rS ?_
       refine AWP.cond rfl (fun hb => ?_) (fun hb => ?_)
       ·simp only [hb, cond_true] at hz1
        refine rS ?_
        refine AWP.ret ?_
        subst hz1
        dsimp only at hR
        subst hR
        exact es
       ·simp only [hb, cond_false] at hz1
        refine rS ?_
        refine rD 9 ?_
        refine AWP.cond rfl (fun hb => ?_) (fun hb => ?_)
        ·simp only [hb, cond_true] at hz1
         refine rS ?_
         refine AWP.ret ?_
         subst hz1
         dsimp only at hR
         subst hR
         exact es
        ·simp only [hb, cond_false] at hz1
         refine rS ?_
         refine rD 9 ?_
         refine AWP.cond rfl (fun hb => ?_) (fun hb => ?_)
         ·simp only [hb, cond_true] at hz1
          refine rS ?_
          refine AWP.ret ?_
          subst hz1
          dsimp only at hR
          subst hR
          exact es
         ·simp only [hb, cond_false] at hz1
          refine rS ?_
          refine rD 9 ?_
          refine AWP.cond rfl (fun hb => ?_) (fun hb => ?_)
          ·simp only [hb, cond_true] at hz1
           refine rS ?_
           refine AWP.ret ?_
           subst hz1
           dsimp only at hR
           subst hR
           exact es
          ·simp only [hb, cond_false] at hz1
           iterate 2 refine rS ?_
           refine AWP.cond rfl (fun hb => ?_) (fun hb => ?_)
           ·simp only [hb, cond_true] at hz1
            refine rS ?_
            refine AWP.ret ?_
            subst hz1
            dsimp only at hR
            subst hR
            exact es
           ·simp only [hb, cond_false] at hz1
            iterate 3 refine rS ?_
            refine AWP.cond rfl (fun hb => ?_) (fun hb => ?_)
            ·simp only [hb, cond_true] at hz1
             refine rS ?_
             refine AWP.ret ?_
             subst hz1
             dsimp only at hR
             subst hR
             exact es
            ·simp only [hb, cond_false] at hz1
             refine rD 9 ?_
             refine AWP.cond rfl (fun hb => ?_) (fun hb => ?_)
             ·simp only [hb, cond_true] at hz1
              refine rS ?_
              refine AWP.ret ?_
              subst hz1
              dsimp only at hR
              subst hR
              exact es
             ·simp only [hb, cond_false] at hz1
              refine rS ?_
              refine rD 9 ?_
              refine AWP.cond rfl (fun hb => ?_) (fun hb => ?_)
              ·simp only [hb, cond_true] at hz1
               refine rS ?_
               refine AWP.ret ?_
               subst hz1
               dsimp only at hR
               subst hR
               exact es
              ·simp only [hb, cond_false] at hz1
               iterate 2 refine rS ?_
               refine AWP.cond rfl (fun hb => ?_) (fun hb => ?_)
               ·simp only [hb, cond_true] at hz1
                refine rS ?_
                refine AWP.ret ?_
                subst hz1
                dsimp only at hR
                subst hR
                exact es
               ·simp only [hb, cond_false] at hz1
                iterate 3 refine rS ?_
                refine AWP.cond rfl (fun hb => ?_) (fun hb => ?_)
                ·simp only [hb, cond_true] at hz1
                 refine rS ?_
                 refine AWP.ret ?_
                 subst hz1
                 dsimp only at hR
                 subst hR
                 exact es
                ·simp only [hb, cond_false] at hz1
                 refine rS ?_
                 refine AWP.cond rfl (fun hb => ?_) (fun hb => ?_)
                 ·simp only [hb, cond_true] at hz1
                  refine rS ?_
                  refine AWP.ret ?_
                  subst hz1
                  dsimp only at hR
                  subst hR
                  exact es
                 ·simp only [hb, cond_false] at hz1
                  iterate 2 refine rS ?_
                  exact ⟨_, [], hlt1, by (exact mrg), hz1, sm⟩
 ·obtain rfl : i1 = a0.length := ot
  rw [loopR_ge (Nat.le_refl _)] at hz1; subst hz1; dsimp only at hR
  refine AWP.exit ?_; refine exitTo_here ?_
  refine rS ?_
  refine AWP.ret ?_
  subst hR
  exact es
end N37
def D_zvb : DF
 | [x0, x1] => some (.int .i64 (zvb (rdL dAid x0) (rdI x1)), false, [wL 16 eAid dAid x0, wI .i64 x1, (rdI x1) ≤ 9223372036854775807])
 | _ => none
theorem D_zvb_ok : OkD Tryz.prog 37 D_zvb := by unfold D_zvb; exact dk N37.den
end Go.Ab

namespace Go.Ab
open Go Go.Proofs
def aidStep (x : Aid) (k : Int) : Int × Aid :=
 (IntKind.wrap .i64 (((zk (x.Sectors) (IntKind.wrap .i64 ((IntKind.wrap .i64 ((IntKind.wrap .i64 (((za ((x.Light).Group) (IntKind.wrap .i64 ((IntKind.wrap .i64 ((IntKind.wrap .i64 ((IntKind.wrap .i64 ((IntKind.wrap .i64 ((IntKind.wrap .i64 ((IntKind.wrap .i64 ((IntKind.wrap .i64 ((IntKind.wrap .i64 ((IntKind.wrap .i64 (k + 1)) + 1)) + 1)) + 1)) + 1)) + 1)) + 1)) + 1)) + 1)) + 1))).1) + 1)) + 1)) + 1))).1) + 1), { Number := k, Name := (zf (IntKind.wrap .i64 (k + 1))), At := { X := IntKind.wrap .i64 ((IntKind.wrap .i64 (k + 1)) + 1), Y := IntKind.wrap .i64 ((IntKind.wrap .i64 ((IntKind.wrap .i64 (k + 1)) + 1)) + 1) : Point }, Height := IntKind.wrap .i64 ((IntKind.wrap .i64 ((IntKind.wrap .i64 ((IntKind.wrap .i64 (k + 1)) + 1)) + 1)) + 1), Mark := { Kind := IntKind.wrap .i64 ((IntKind.wrap .i64 ((IntKind.wrap .i64 ((IntKind.wrap .i64 ((IntKind.wrap .i64 (k + 1)) + 1)) + 1)) + 1)) + 1), Colors := (zf (IntKind.wrap .i64 ((IntKind.wrap .i64 ((IntKind.wrap .i64 ((IntKind.wrap .i64 ((IntKind.wrap .i64 ((IntKind.wrap .i64 (k + 1)) + 1)) + 1)) + 1)) + 1)) + 1))), Shape := (zf (IntKind.wrap .i64 ((IntKind.wrap .i64 ((IntKind.wrap .i64 ((IntKind.wrap .i64 ((IntKind.wrap .i64 ((IntKind.wrap .i64 ((IntKind.wrap .i64 (k + 1)) + 1)) + 1)) + 1)) + 1)) + 1)) + 1))), Topmark := (zf (IntKind.wrap .i64 ((IntKind.wrap .i64 ((IntKind.wrap .i64 ((IntKind.wrap .i64 ((IntKind.wrap .i64 ((IntKind.wrap .i64 ((IntKind.wrap .i64 ((IntKind.wrap .i64 (k + 1)) + 1)) + 1)) + 1)) + 1)) + 1)) + 1)) + 1))) : Mark }, Light := { Kind := IntKind.wrap .i64 ((IntKind.wrap .i64 ((IntKind.wrap .i64 ((IntKind.wrap .i64 ((IntKind.wrap .i64 ((IntKind.wrap .i64 ((IntKind.wrap .i64 ((IntKind.wrap .i64 ((IntKind.wrap .i64 (k + 1)) + 1)) + 1)) + 1)) + 1)) + 1)) + 1)) + 1)) + 1), Group := (za ((x.Light).Group) (IntKind.wrap .i64 ((IntKind.wrap .i64 ((IntKind.wrap .i64 ((IntKind.wrap .i64 ((IntKind.wrap .i64 ((IntKind.wrap .i64 ((IntKind.wrap .i64 ((IntKind.wrap .i64 ((IntKind.wrap .i64 ((IntKind.wrap .i64 (k + 1)) + 1)) + 1)) + 1)) + 1)) + 1)) + 1)) + 1)) + 1)) + 1))).2, Letter := (zf ((za ((x.Light).Group) (IntKind.wrap .i64 ((IntKind.wrap .i64 ((IntKind.wrap .i64 ((IntKind.wrap .i64 ((IntKind.wrap .i64 ((IntKind.wrap .i64 ((IntKind.wrap .i64 ((IntKind.wrap .i64 ((IntKind.wrap .i64 ((IntKind.wrap .i64 (k + 1)) + 1)) + 1)) + 1)) + 1)) + 1)) + 1)) + 1)) + 1)) + 1))).1)), Colors := (zf (IntKind.wrap .i64 (((za ((x.Light).Group) (IntKind.wrap .i64 ((IntKind.wrap .i64 ((IntKind.wrap .i64 ((IntKind.wrap .i64 ((IntKind.wrap .i64 ((IntKind.wrap .i64 ((IntKind.wrap .i64 ((IntKind.wrap .i64 ((IntKind.wrap .i64 ((IntKind.wrap .i64 (k + 1)) + 1)) + 1)) + 1)) + 1)) + 1)) + 1)) + 1)) + 1)) + 1))).1) + 1))), Period := IntKind.wrap .i64 ((IntKind.wrap .i64 (((za ((x.Light).Group) (IntKind.wrap .i64 ((IntKind.wrap .i64 ((IntKind.wrap .i64 ((IntKind.wrap .i64 ((IntKind.wrap .i64 ((IntKind.wrap .i64 ((IntKind.wrap .i64 ((IntKind.wrap .i64 ((IntKind.wrap .i64 ((IntKind.wrap .i64 (k + 1)) + 1)) + 1)) + 1)) + 1)) + 1)) + 1)) + 1)) + 1)) + 1))).1) + 1)) + 1) : Character }, Sectors := (zk (x.Sectors) (IntKind.wrap .i64 ((IntKind.wrap .i64 ((IntKind.wrap .i64 (((za ((x.Light).Group) (IntKind.wrap .i64 ((IntKind.wrap .i64 ((IntKind.wrap .i64 ((IntKind.wrap .i64 ((IntKind.wrap .i64 ((IntKind.wrap .i64 ((IntKind.wrap .i64 ((IntKind.wrap .i64 ((IntKind.wrap .i64 ((IntKind.wrap .i64 (k + 1)) + 1)) + 1)) + 1)) + 1)) + 1)) + 1)) + 1)) + 1)) + 1))).1) + 1)) + 1)) + 1))).2, Intensity := ((zk (x.Sectors) (IntKind.wrap .i64 ((IntKind.wrap .i64 ((IntKind.wrap .i64 (((za ((x.Light).Group) (IntKind.wrap .i64 ((IntKind.wrap .i64 ((IntKind.wrap .i64 ((IntKind.wrap .i64 ((IntKind.wrap .i64 ((IntKind.wrap .i64 ((IntKind.wrap .i64 ((IntKind.wrap .i64 ((IntKind.wrap .i64 ((IntKind.wrap .i64 (k + 1)) + 1)) + 1)) + 1)) + 1)) + 1)) + 1)) + 1)) + 1)) + 1))).1) + 1)) + 1)) + 1))).1) : Aid })
theorem markAidS_R (a : List Aid) (k : Int) : zt a k = markR aidStep a k := by
 unfold zt
 have := markR_loop aidStep (zt_b1 a k) (fun i s => rfl) a [] k
 simp only [List.length_nil, List.nil_append, Nat.sub_zero] at this ⊢
 rw [this]
def aidB (x : Aid) : Prop := x.Light.Group.length ≤ 1048576 ∧ x.Sectors.length ≤ 1048576
theorem aidStep_k (x : Aid) (k : Int) (hx : aidB x) (h0 : 0 ≤ k) (h1 : k ≤ 281474976710656) : (aidStep x k).1 = k + 14 + x.Light.Group.length + 3 * x.Sectors.length := by
 obtain ⟨b1, b2⟩ := hx
 unfold aidStep
 simp (disch := omega) only [wr1]
 have g1 : k + 1 + 1 + 1 + 1 + 1 + 1 + 1 + 1 + 1 + 1 = k + 10 := by omega
 rw [g1, za_k _ _ (by omega) (by omega) (by omega)]
 simp (disch := omega) only [wr1]
 rw [markSectorS_k _ _ (by omega) (by omega) (by omega)]
 simp (disch := omega) only [wr1]
 omega
theorem heldAid_step (L : List Aid) (a1 : Int) (j : Nat) (x : Aid) (s : Int) (hx : aidB x) (h0 : 0 ≤ s) (h1 : s ≤ 281474976710656) (e : L.getD j default = (aidStep x s).2) : zvb_b1 L a1 j s = .ok (aidStep x s).1 := by
 obtain ⟨b1, b2⟩ := hx
 simp only [zvb_b1, e]
 simp only [aidStep]
 simp (disch := omega) only [wr1]
 have g1 : s + 1 + 1 + 1 + 1 + 1 + 1 + 1 + 1 + 1 + 1 = s + 10 := by omega
 simp only [g1]
 have e1 := zm_mark x.Light.Group (s + 10) (by omega) (by omega) (by omega)
 have e2 := za_k x.Light.Group (s + 10) (by omega) (by omega) (by omega)
 simp only [e1.1, e2]
 simp (disch := omega) only [wr1]
 have e3 := heldSectorS_mark x.Sectors (s + 10 + 1 * (x.Light.Group.length : Int) + 1 + 1 + 1) (by omega) (by omega) (by omega)
 have e4 := markSectorS_k x.Sectors (s + 10 + 1 * (x.Light.Group.length : Int) + 1 + 1 + 1) (by omega) (by omega) (by omega)
 simp only [e3.1, e4]
 simp (disch := omega) only [wr1]
 rw [decide_eq_false (show ¬ s + 10 + 1 * (x.Light.Group.length : Int) < 0 by omega), decide_eq_false (show ¬ s + 10 + 1 * (x.Light.Group.length : Int) + 1 + 1 + 1 + 3 * (x.Sectors.length : Int) < 0 by omega)]
 simp only [bne_self_eq_false, cond_false]
theorem aidStep_rng (x : Aid) (k : Int) (hx : aidB x) (h0 : 0 ≤ k) (h1 : k ≤ 281474976710656) : k ≤ (aidStep x k).1 ∧ (aidStep x k).1 ≤ k + 4194400 := by
 rw [aidStep_k x k hx h0 h1]
 obtain ⟨b1, b2⟩ := hx
 omega
theorem markAidS_rng (a : List Aid) (k : Int) (ha : ∀ x ∈ a, aidB x) (hl : a.length ≤ 1048576) (h0 : 0 ≤ k) (h1 : k ≤ 140737488355328) : k ≤ (zt a k).1 ∧ (zt a k).1 ≤ k + 4194400 * a.length := by
 rw [markAidS_R]
 exact markR_le aidStep aidB 4194400 281474976710656 (by omega) aidStep_rng a k ha h0 (by omega)
theorem heldAidS_mark (a : List Aid) (k : Int) (ha : ∀ x ∈ a, aidB x) (hl : a.length ≤ 1048576) (h0 : 0 ≤ k) (h1 : k ≤ 140737488355328) : zvb (zt a k).2 k = (zt a k).1 ∧ ¬ (zt a k).1 < 0 := by
 refine ⟨?_, by have := markAidS_rng a k ha hl h0 h1; omega⟩
 rw [markAidS_R]
 unfold zvb
 rw [markR_len, Nat.sub_zero]
 rw [markR_held aidStep (zvb_b1 (markR aidStep a k).2 k) aidB 4194400 281474976710656 (by omega) aidStep_rng a 0 k ha h0 (by omega) (fun j x s hx g0 g1 g2 => by
  have e : (markR aidStep a k).2.getD (0 + j) default = (aidStep x s).2 := by rw [Nat.zero_add, List.getD_eq_getElem?_getD, g2]; rfl
  exact heldAid_step _ _ _ x s hx g0 g1 e)]
end Go.Ab

namespace Go.Ab
open Go Go.Proofs
def aidP (v : Aid) : Prop := aidL v ∧ aidB v
theorem aidP_of {v : Aid} (h : bwAid v) (h2 : smAid v) : aidP v := ⟨⟨h.2.2.1.2.2, by have := h2.2.2.2.1; omega⟩, ⟨h2.2.2.1.1, h2.2.2.2.1⟩⟩
theorem aidP_L (v : Aid) (h : aidP v) : aidL v := h.1
end Go.Ab

namespace Go.Ab
open Go Go.Proofs
def zmf (a0 : Point) : Point :=
 a0
namespace N89
theorem DD : DOk Tryz.prog (Go.Ab.DD []) := DD_nil _
theorem den (a0 : Point)  : Den Tryz.prog 89 [.agg (ePoint a0)] (.agg (ePoint (zmf a0))) := by
 generalize hR : zmf a0 = r
 unfold zmf at hR
 refine di Tryz.func89 Tryz.ntmps89 Tryz.results89 ?_
 intro c hL hc hk
 clear hL
 simp only [pars, Nat.zero_add]
 iterate 5 refine rS ?_
 refine AWP.ret ?_
 subst hR
 exact es
end N89
def D_zmf : DF
 | [x0] => some (.agg (ePoint (zmf (rdG dPoint x0))), false, [wG ePoint dPoint x0])
 | _ => none
theorem D_zmf_ok : OkD Tryz.prog 89 D_zmf := by unfold D_zmf; exact dk N89.den
end Go.Ab

namespace Go.Ab
open Go Go.Proofs
def znf (a0 : Mark) : Mark :=
 a0
namespace N90
theorem DD : DOk Tryz.prog (Go.Ab.DD []) := DD_nil _
theorem den (a0 : Mark)  : Den Tryz.prog 90 [.agg (eMark a0)] (.agg (eMark (znf a0))) := by
 generalize hR : znf a0 = r
 unfold znf at hR
 refine di Tryz.func90 Tryz.ntmps90 Tryz.results90 ?_
 intro c hL hc hk
 obtain ⟨hL0, _⟩ := hL
 have hw0 : bwMark a0 := Mark_lens a0 hL0
 clear hL0
 simp only [pars, Nat.zero_add]
 iterate 7 refine rS ?_
 refine AWP.ret ?_
 subst hR
 exact es
end N90
def D_znf : DF
 | [x0] => some (.agg (eMark (znf (rdG dMark x0))), false, [wG eMark dMark x0])
 | _ => none
theorem D_znf_ok : OkD Tryz.prog 90 D_znf := by unfold D_znf; exact dk N90.den
end Go.Ab

namespace Go.Ab
open Go Go.Proofs
def zdd_b1 (a0 : (List Int)) (i1 : Nat) (s1 : List Int) : Except ((List Int)) (List Int) :=
 .ok (s1.set i1 (a0.getD i1 default))
def zdd (a0 : (List Int)) : (List Int) :=
 (match loopR (zdd_b1 a0) (a0.length - 0) 0 (List.replicate a0.length (default : Int)) with | .error e => e | .ok s1 => s1)
namespace N156
theorem DD : DOk Tryz.prog (Go.Ab.DD []) := DD_nil _
theorem den (a0 : (List Int)) (hb0 : a0.length < 1099511627776) : Den Tryz.prog 156 [encL 1 eIi64 a0] (ownL 2 1 eIi64 (zdd a0)) := by
 generalize hR : zdd a0 = r
 unfold zdd at hR
 refine di Tryz.func156 Tryz.ntmps156 Tryz.results156 ?_
 intro c hL hc hk
 obtain ⟨hL0, _⟩ := hL
 have hw0 : a0.length < 9223372036854775808 := Nat.lt_succ_of_le (lens_encL hL0).1
 clear hL0
 simp only [pars, Nat.zero_add]
 iterate 3 refine rS ?_
 refine AWP.block ?_
 generalize hz1 : loopR (zdd_b1 a0) (a0.length - 0) 0 (List.replicate a0.length (default : Int)) = z1 at hR
 refine AWP.range (zdd_b1 a0) (fun i1 s1 => ⟨[(0, encL 1 eIi64 a0), (3, .ref 0 1 0 s1.length), (4, .int .i64 (i1 : Int))], [.arr 2 1 s1.length (fun j => eIi64 (s1.getD j default))]⟩) (fun i1 s1 => s1.length = (List.replicate a0.length (default : Int)).length) (a0.length) 0 (List.replicate a0.length (default : Int)) [0] hz1 ot wt sm ?_
 clear hz1
 intro i1 s1 hi1 hW1 hz1
 refine rS ?_
 refine AWP.cond rfl (fun hb => ?_) (fun hb => ?_)
 ·have hlt1 : i1 < a0.length := ot
  rw [loopR_lt hlt1] at hz1; simp only [zdd_b1] at hz1
  iterate 2 refine rS ?_
  exact ⟨_, [0], hlt1, wt, hz1, sm⟩
 ·obtain rfl : i1 = a0.length := ot
  rw [loopR_ge (Nat.le_refl _)] at hz1; subst hz1; dsimp only at hR
  refine AWP.exit ?_; refine exitTo_here ?_
  refine rS ?_
  refine AWP.ret ?_
  subst hR
  exact es
end N156
def D_zdd : DF
 | [x0] => some (ownL 2 1 eIi64 (zdd (rdL dIi64 x0)), false, [wL 1 eIi64 dIi64 x0, (rdL dIi64 x0).length < 1099511627776])
 | _ => none
theorem D_zdd_ok : OkD Tryz.prog 156 D_zdd := by unfold D_zdd; exact dk N156.den
end Go.Ab

namespace Go.Ab
open Go Go.Proofs
theorem zdd_id (a : List Int) : zdd a = a := by
 unfold zdd
 rw [loopR_fill (b := zdd_b1 a) (fun i => a.getD i default) (by simp) (fun i s _ => rfl)]
 skip
 exact range_getD a
end Go.Ab

namespace Go.Ab
open Go Go.Proofs
def zof (a0 : Character) : Character :=
 { Kind := a0.Kind, Group := (zdd a0.Group), Letter := a0.Letter, Colors := a0.Colors, Period := a0.Period : Character }
namespace N91
theorem DD : DOk Tryz.prog (Go.Ab.DD [(156, dP D_zdd)]) := DD_cons D_zdd_ok.e <| DD_nil _
theorem dn : type_of% (@D_zdd.eq_1) := by and_intros <;> intros <;> rfl
theorem ol : type_of% (@zdd_id) := @zdd_id
theorem den (a0 : Character) (hb0 : bdCharacter a0) : Den Tryz.prog 91 [.agg (eCharacter a0)] (.agg (eCharacterO (zof a0))) := by
 generalize hR : zof a0 = r
 unfold zof at hR
 refine di Tryz.func91 Tryz.ntmps91 Tryz.results91 ?_
 intro c hL hc hk
 obtain ⟨hL0, _⟩ := hL
 have hw0 : bwCharacter a0 := Character_lens a0 hL0
 clear hL0
 simp only [pars, Nat.zero_add]
 iterate 8 refine rS ?_
 refine AWP.ret ?_
 subst hR
 exact es
end N91
def D_zof : DF
 | [x0] => some (.agg (eCharacterO (zof (rdG dCharacter x0))), false, [wG eCharacter dCharacter x0, bdCharacter (rdG dCharacter x0)])
 | _ => none
theorem D_zof_ok : OkD Tryz.prog 91 D_zof := by unfold D_zof; exact dk N91.den
end Go.Ab

namespace Go.Ab
open Go Go.Proofs
def zef (a0 : Sector) : Sector :=
 a0
namespace N157
theorem DD : DOk Tryz.prog (Go.Ab.DD []) := DD_nil _
theorem den (a0 : Sector)  : Den Tryz.prog 157 [.agg (eSector a0)] (.agg (eSector (zef a0))) := by
 generalize hR : zef a0 = r
 unfold zef at hR
 refine di Tryz.func157 Tryz.ntmps157 Tryz.results157 ?_
 intro c hL hc hk
 obtain ⟨hL0, _⟩ := hL
 have hw0 : bwSector a0 := Sector_lens a0 hL0
 clear hL0
 simp only [pars, Nat.zero_add]
 iterate 6 refine rS ?_
 refine AWP.ret ?_
 subst hR
 exact es
end N157
def D_zef : DF
 | [x0] => some (.agg (eSector (zef (rdG dSector x0))), false, [wG eSector dSector x0])
 | _ => none
theorem D_zef_ok : OkD Tryz.prog 157 D_zef := by unfold D_zef; exact dk N157.den
end Go.Ab

namespace Go.Ab
open Go Go.Proofs
def zed_b1 (a0 : (List Sector)) (i1 : Nat) (s1 : List Sector) : Except ((List Sector)) (List Sector) :=
 .ok (s1.set i1 (zef (a0.getD i1 default)))
def zed (a0 : (List Sector)) : (List Sector) :=
 (match loopR (zed_b1 a0) (a0.length - 0) 0 (List.replicate a0.length (default : Sector)) with | .error e => e | .ok s1 => s1)
namespace N92
theorem DD : DOk Tryz.prog (Go.Ab.DD [(157, dP D_zef)]) := DD_cons D_zef_ok.e <| DD_nil _
theorem dn : type_of% (@D_zef.eq_1) := by and_intros <;> intros <;> rfl
theorem den (a0 : (List Sector)) (hb0 : a0.length < 1099511627776) (hb1 : ∀ v ∈ a0, bdSector v) : Den Tryz.prog 92 [encL 3 eSector a0] (ownL 180 3 eSector (zed a0)) := by
 generalize hR : zed a0 = r
 unfold zed at hR
 refine di Tryz.func92 Tryz.ntmps92 Tryz.results92 ?_
 intro c hL hc hk
 obtain ⟨hL0, _⟩ := hL
 have hw0 : a0.length < 9223372036854775808 := Nat.lt_succ_of_le (lens_encL hL0).1
 have hw1 : ∀ v ∈ a0, bwSector v := fun v hv => Sector_lens v ((lens_encL hL0).2 v hv)
 clear hL0
 simp only [pars, Nat.zero_add]
 iterate 3 refine rS ?_
 refine AWP.block ?_
 generalize hz1 : loopR (zed_b1 a0) (a0.length - 0) 0 (List.replicate a0.length (default : Sector)) = z1 at hR
 refine AWP.range (zed_b1 a0) (fun i1 s1 => ⟨[(0, encL 3 eSector a0), (3, .ref 0 3 0 s1.length), (4, .int .i64 (i1 : Int))], [.arr 180 3 s1.length (fun j => eSector (s1.getD j default))]⟩) (fun i1 s1 => s1.length = (List.replicate a0.length (default : Sector)).length) (a0.length) 0 (List.replicate a0.length (default : Sector)) [0] hz1 ot wt sm ?_
 clear hz1
 intro i1 s1 hi1 hW1 hz1
 refine rS ?_
 refine AWP.cond rfl (fun hb => ?_) (fun hb => ?_)
 ·have hlt1 : i1 < a0.length := ot
  rw [loopR_lt hlt1] at hz1; simp only [zed_b1] at hz1
  iterate 2 refine rS ?_
  exact ⟨_, [0], hlt1, wt, hz1, sm⟩
 ·obtain rfl : i1 = a0.length := ot
  rw [loopR_ge (Nat.le_refl _)] at hz1; subst hz1; dsimp only at hR
  refine AWP.exit ?_; refine exitTo_here ?_
  refine rS ?_
  refine AWP.ret ?_
  subst hR
  exact es
end N92
def D_zed : DF
 | [x0] => some (ownL 180 3 eSector (zed (rdL dSector x0)), false, [wL 3 eSector dSector x0, (rdL dSector x0).length < 1099511627776, ∀ v ∈ (rdL dSector x0), bdSector v])
 | _ => none
theorem D_zed_ok : OkD Tryz.prog 92 D_zed := by unfold D_zed; exact dk N92.den
end Go.Ab

namespace Go.Ab
open Go Go.Proofs
theorem zef_id (v : Sector) : zef v = v := by
 unfold zef
 rfl
end Go.Ab

namespace Go.Ab
open Go Go.Proofs
theorem zed_id (a : List Sector) : zed a = a := by
 unfold zed
 rw [loopR_fill (b := zed_b1 a) (fun i => zef (a.getD i default)) (by simp) (fun i s _ => rfl)]
 simp only [zef_id]
 exact range_getD a
end Go.Ab

namespace Go.Ab
open Go Go.Proofs
def zpc (a0 : Aid) : Aid :=
 { Number := a0.Number, Name := a0.Name, At := (zmf a0.At), Height := a0.Height, Mark := (znf a0.Mark), Light := zof a0.Light, Sectors := (zed a0.Sectors), Intensity := a0.Intensity : Aid }
namespace N33
theorem DD : DOk Tryz.prog (Go.Ab.DD [(89, dP D_zmf), (90, dP D_znf), (91, dP D_zof), (92, dP D_zed)]) := DD_cons D_zmf_ok.e <| DD_cons D_znf_ok.e <| DD_cons D_zof_ok.e <| DD_cons D_zed_ok.e <| DD_nil _
theorem dn : type_of% (And.intro @D_zmf.eq_1 <| And.intro @D_znf.eq_1 <| And.intro @D_zof.eq_1 <| @D_zed.eq_1) := by and_intros <;> intros <;> rfl
theorem ol : type_of% (@zed_id) := @zed_id
theorem den (a0 : Aid) (hb0 : bdAid a0) : Den Tryz.prog 33 [.agg (eAid a0)] (.agg (eAidO (zpc a0))) := by
 generalize hR : zpc a0 = r
 unfold zpc at hR
 refine di Tryz.func33 Tryz.ntmps33 Tryz.results33 ?_
 intro c hL hc hk
 obtain ⟨hL0, _⟩ := hL
 have hw0 : bwAid a0 := Aid_lens a0 hL0
 clear hL0
 simp only [pars, Nat.zero_add]
 iterate 11 refine rS ?_
 refine AWP.ret ?_
 subst hR
 exact es
end N33
def D_zpc : DF
 | [x0] => some (.agg (eAidO (zpc (rdG dAid x0))), false, [wG eAid dAid x0, bdAid (rdG dAid x0)])
 | _ => none
theorem D_zpc_ok : OkD Tryz.prog 33 D_zpc := by unfold D_zpc; exact dk N33.den
end Go.Ab

namespace Go.Ab
open Go Go.Proofs
theorem zmf_id (v : Point) : zmf v = v := by
 unfold zmf
 rfl
end Go.Ab

namespace Go.Ab
open Go Go.Proofs
theorem znf_id (v : Mark) : znf v = v := by
 unfold znf
 rfl
end Go.Ab

namespace Go.Ab
open Go Go.Proofs
theorem zof_id (v : Character) : zof v = v := by
 unfold zof
 simp only [zdd_id]
end Go.Ab

namespace Go.Ab
open Go Go.Proofs
theorem zpc_id (v : Aid) : zpc v = v := by
 unfold zpc
 simp only [zmf_id, znf_id, zof_id, zed_id]
end Go.Ab

namespace Go.Ab
open Go Go.Proofs
def zpf (a0 : Sector) (a1 : Sector) : Bool :=
 (bif (a0.From != a1.From) then false else (bif (a0.To != a1.To) then false else (bif (a0.Color != a1.Color) then false else true)))
namespace N167
theorem DD : DOk Tryz.prog (Go.Ab.DD []) := DD_nil _
theorem den (a0 : Sector) (a1 : Sector)  : Den Tryz.prog 167 [.agg (eSector a0), .agg (eSector a1)] (.bool (zpf a0 a1)) := by
 generalize hR : zpf a0 a1 = r
 unfold zpf at hR
 refine di Tryz.func167 Tryz.ntmps167 Tryz.results167 ?_
 intro c hL hc hk
 obtain ⟨hL0, hL1, _⟩ := hL
 have hw0 : bwSector a0 := Sector_lens a0 hL0
 have hw1 : bwSector a1 := Sector_lens a1 hL1
 clear hL0 hL1
 simp only [pars, Nat.zero_add]
 iterate 2 refine rS ?_
 refine AWP.cond rfl (fun hb => ?_) (fun hb => ?_)
 ·replace hR := ct hR
  refine rS ?_
  refine AWP.ret ?_
  subst hR
  exact es
 ·replace hR := cf hR
  refine rS ?_
  refine AWP.cond rfl (fun hb => ?_) (fun hb => ?_)
  ·replace hR := ct hR
   refine rS ?_
   refine AWP.ret ?_
   subst hR
   exact es
  ·replace hR := cf hR
   refine rS ?_
   refine AWP.cond rfl (fun hb => ?_) (fun hb => ?_)
   ·replace hR := ct hR
    refine rS ?_
    refine AWP.ret ?_
    subst hR
    exact es
   ·replace hR := cf hR
    refine rS ?_
    refine AWP.ret ?_
    subst hR
    exact es
end N167
def D_zpf : DF
 | [x0, x1] => some (.bool (zpf (rdG dSector x0) (rdG dSector x1)), false, [wG eSector dSector x0, wG eSector dSector x1])
 | _ => none
theorem D_zpf_ok : OkD Tryz.prog 167 D_zpf := by unfold D_zpf; exact dk N167.den
end Go.Ab
