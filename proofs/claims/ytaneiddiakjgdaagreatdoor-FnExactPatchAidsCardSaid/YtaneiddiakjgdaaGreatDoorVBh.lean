/- A part of a proof: walks of functions and lemmas of our own. No conditions. -/
import Derived.Test.YtaneiddiakjgdaaGreatDoorVBb
import Derived.Test.YtaneiddiakjgdaaGreatDoorVBg
import Derived.Test.YtaneiddiakjgdaaGreatDoorVBa
import Derived.Test.YtaneiddiakjgdaaGreatDoorVAl
import Derived.Test.YtaneiddiakjgdaaGreatDoorVBc
import Derived.Test.YtaneiddiakjgdaaGreatDoorVAi
import Derived.Test.YtaneiddiakjgdaaGreatDoorVAp
set_option linter.unusedSectionVars false
set_option linter.unusedVariables false
set_option linter.unusedSimpArgs false
set_option maxHeartbeats 1000000
namespace Go.Ab
open Go Go.Proofs
def correctionStep (x : Correction) (k : Int) : Int × Correction :=
 (IntKind.wrap .i64 (((zk ((x.Aid).Sectors) (IntKind.wrap .i64 ((IntKind.wrap .i64 ((IntKind.wrap .i64 (((za (((x.Aid).Light).Group) (IntKind.wrap .i64 ((IntKind.wrap .i64 ((IntKind.wrap .i64 ((IntKind.wrap .i64 ((IntKind.wrap .i64 ((IntKind.wrap .i64 ((IntKind.wrap .i64 ((IntKind.wrap .i64 ((IntKind.wrap .i64 ((IntKind.wrap .i64 ((IntKind.wrap .i64 (k + 1)) + 1)) + 1)) + 1)) + 1)) + 1)) + 1)) + 1)) + 1)) + 1)) + 1))).1) + 1)) + 1)) + 1))).1) + 1), { Kind := k, Aid := { Number := IntKind.wrap .i64 (k + 1), Name := (zf (IntKind.wrap .i64 ((IntKind.wrap .i64 (k + 1)) + 1))), At := { X := IntKind.wrap .i64 ((IntKind.wrap .i64 ((IntKind.wrap .i64 (k + 1)) + 1)) + 1), Y := IntKind.wrap .i64 ((IntKind.wrap .i64 ((IntKind.wrap .i64 ((IntKind.wrap .i64 (k + 1)) + 1)) + 1)) + 1) : Point }, Height := IntKind.wrap .i64 ((IntKind.wrap .i64 ((IntKind.wrap .i64 ((IntKind.wrap .i64 ((IntKind.wrap .i64 (k + 1)) + 1)) + 1)) + 1)) + 1), Mark := { Kind := IntKind.wrap .i64 ((IntKind.wrap .i64 ((IntKind.wrap .i64 ((IntKind.wrap .i64 ((IntKind.wrap .i64 ((IntKind.wrap .i64 (k + 1)) + 1)) + 1)) + 1)) + 1)) + 1), Colors := (zf (IntKind.wrap .i64 ((IntKind.wrap .i64 ((IntKind.wrap .i64 ((IntKind.wrap .i64 ((IntKind.wrap .i64 ((IntKind.wrap .i64 ((IntKind.wrap .i64 (k + 1)) + 1)) + 1)) + 1)) + 1)) + 1)) + 1))), Shape := (zf (IntKind.wrap .i64 ((IntKind.wrap .i64 ((IntKind.wrap .i64 ((IntKind.wrap .i64 ((IntKind.wrap .i64 ((IntKind.wrap .i64 ((IntKind.wrap .i64 ((IntKind.wrap .i64 (k + 1)) + 1)) + 1)) + 1)) + 1)) + 1)) + 1)) + 1))), Topmark := (zf (IntKind.wrap .i64 ((IntKind.wrap .i64 ((IntKind.wrap .i64 ((IntKind.wrap .i64 ((IntKind.wrap .i64 ((IntKind.wrap .i64 ((IntKind.wrap .i64 ((IntKind.wrap .i64 ((IntKind.wrap .i64 (k + 1)) + 1)) + 1)) + 1)) + 1)) + 1)) + 1)) + 1)) + 1))) : Mark }, Light := { Kind := IntKind.wrap .i64 ((IntKind.wrap .i64 ((IntKind.wrap .i64 ((IntKind.wrap .i64 ((IntKind.wrap .i64 ((IntKind.wrap .i64 ((IntKind.wrap .i64 ((IntKind.wrap .i64 ((IntKind.wrap .i64 ((IntKind.wrap .i64 (k + 1)) + 1)) + 1)) + 1)) + 1)) + 1)) + 1)) + 1)) + 1)) + 1), Group := (za (((x.Aid).Light).Group) (IntKind.wrap .i64 ((IntKind.wrap .i64 ((IntKind.wrap .i64 ((IntKind.wrap .i64 ((IntKind.wrap .i64 ((IntKind.wrap .i64 ((IntKind.wrap .i64 ((IntKind.wrap .i64 ((IntKind.wrap .i64 ((IntKind.wrap .i64 ((IntKind.wrap .i64 (k + 1)) + 1)) + 1)) + 1)) + 1)) + 1)) + 1)) + 1)) + 1)) + 1)) + 1))).2, Letter := (zf ((za (((x.Aid).Light).Group) (IntKind.wrap .i64 ((IntKind.wrap .i64 ((IntKind.wrap .i64 ((IntKind.wrap .i64 ((IntKind.wrap .i64 ((IntKind.wrap .i64 ((IntKind.wrap .i64 ((IntKind.wrap .i64 ((IntKind.wrap .i64 ((IntKind.wrap .i64 ((IntKind.wrap .i64 (k + 1)) + 1)) + 1)) + 1)) + 1)) + 1)) + 1)) + 1)) + 1)) + 1)) + 1))).1)), Colors := (zf (IntKind.wrap .i64 (((za (((x.Aid).Light).Group) (IntKind.wrap .i64 ((IntKind.wrap .i64 ((IntKind.wrap .i64 ((IntKind.wrap .i64 ((IntKind.wrap .i64 ((IntKind.wrap .i64 ((IntKind.wrap .i64 ((IntKind.wrap .i64 ((IntKind.wrap .i64 ((IntKind.wrap .i64 ((IntKind.wrap .i64 (k + 1)) + 1)) + 1)) + 1)) + 1)) + 1)) + 1)) + 1)) + 1)) + 1)) + 1))).1) + 1))), Period := IntKind.wrap .i64 ((IntKind.wrap .i64 (((za (((x.Aid).Light).Group) (IntKind.wrap .i64 ((IntKind.wrap .i64 ((IntKind.wrap .i64 ((IntKind.wrap .i64 ((IntKind.wrap .i64 ((IntKind.wrap .i64 ((IntKind.wrap .i64 ((IntKind.wrap .i64 ((IntKind.wrap .i64 ((IntKind.wrap .i64 ((IntKind.wrap .i64 (k + 1)) + 1)) + 1)) + 1)) + 1)) + 1)) + 1)) + 1)) + 1)) + 1)) + 1))).1) + 1)) + 1) : Character }, Sectors := (zk ((x.Aid).Sectors) (IntKind.wrap .i64 ((IntKind.wrap .i64 ((IntKind.wrap .i64 (((za (((x.Aid).Light).Group) (IntKind.wrap .i64 ((IntKind.wrap .i64 ((IntKind.wrap .i64 ((IntKind.wrap .i64 ((IntKind.wrap .i64 ((IntKind.wrap .i64 ((IntKind.wrap .i64 ((IntKind.wrap .i64 ((IntKind.wrap .i64 ((IntKind.wrap .i64 ((IntKind.wrap .i64 (k + 1)) + 1)) + 1)) + 1)) + 1)) + 1)) + 1)) + 1)) + 1)) + 1)) + 1))).1) + 1)) + 1)) + 1))).2, Intensity := ((zk ((x.Aid).Sectors) (IntKind.wrap .i64 ((IntKind.wrap .i64 ((IntKind.wrap .i64 (((za (((x.Aid).Light).Group) (IntKind.wrap .i64 ((IntKind.wrap .i64 ((IntKind.wrap .i64 ((IntKind.wrap .i64 ((IntKind.wrap .i64 ((IntKind.wrap .i64 ((IntKind.wrap .i64 ((IntKind.wrap .i64 ((IntKind.wrap .i64 ((IntKind.wrap .i64 ((IntKind.wrap .i64 (k + 1)) + 1)) + 1)) + 1)) + 1)) + 1)) + 1)) + 1)) + 1)) + 1)) + 1))).1) + 1)) + 1)) + 1))).1) : Aid } : Correction })
theorem markCorrectionS_R (a : List Correction) (k : Int) : zyb a k = markR correctionStep a k := by
 unfold zyb
 have := markR_loop correctionStep (zyb_b1 a k) (fun i s => rfl) a [] k
 simp only [List.length_nil, List.nil_append, Nat.sub_zero] at this ⊢
 rw [this]
theorem correctionStep_k (x : Correction) (k : Int) (hx : aidB x.Aid) (h0 : 0 ≤ k) (h1 : k ≤ 281474976710656) : (correctionStep x k).1 = k + 15 + x.Aid.Light.Group.length + 3 * x.Aid.Sectors.length := by
 obtain ⟨b1, b2⟩ := hx
 unfold correctionStep
 simp (disch := omega) only [wr1]
 have g1 : k + 1 + 1 + 1 + 1 + 1 + 1 + 1 + 1 + 1 + 1 + 1 = k + 11 := by omega
 rw [g1, za_k _ _ (by omega) (by omega) (by omega)]
 simp (disch := omega) only [wr1]
 rw [markSectorS_k _ _ (by omega) (by omega) (by omega)]
 simp (disch := omega) only [wr1]
 omega
theorem heldCorrection_step (L : List Correction) (a1 : Int) (j : Nat) (x : Correction) (s : Int) (hx : aidB x.Aid) (h0 : 0 ≤ s) (h1 : s ≤ 281474976710656) (e : L.getD j default = (correctionStep x s).2) : zgd_b1 L a1 j s = .ok (correctionStep x s).1 := by
 obtain ⟨b1, b2⟩ := hx
 simp only [zgd_b1, e]
 simp only [correctionStep]
 simp (disch := omega) only [wr1]
 have g1 : s + 1 + 1 + 1 + 1 + 1 + 1 + 1 + 1 + 1 + 1 + 1 = s + 11 := by omega
 simp only [g1]
 have e1 := zm_mark x.Aid.Light.Group (s + 11) (by omega) (by omega) (by omega)
 have e2 := za_k x.Aid.Light.Group (s + 11) (by omega) (by omega) (by omega)
 simp only [e1.1, e2]
 simp (disch := omega) only [wr1]
 have e3 := heldSectorS_mark x.Aid.Sectors (s + 11 + 1 * (x.Aid.Light.Group.length : Int) + 1 + 1 + 1) (by omega) (by omega) (by omega)
 have e4 := markSectorS_k x.Aid.Sectors (s + 11 + 1 * (x.Aid.Light.Group.length : Int) + 1 + 1 + 1) (by omega) (by omega) (by omega)
 simp only [e3.1, e4]
 simp (disch := omega) only [wr1]
 rw [decide_eq_false (show ¬ s + 11 + 1 * (x.Aid.Light.Group.length : Int) < 0 by omega), decide_eq_false (show ¬ s + 11 + 1 * (x.Aid.Light.Group.length : Int) + 1 + 1 + 1 + 3 * (x.Aid.Sectors.length : Int) < 0 by omega)]
 simp only [bne_self_eq_false, cond_false]
theorem correctionStep_rng (x : Correction) (k : Int) (hx : aidB x.Aid) (h0 : 0 ≤ k) (h1 : k ≤ 281474976710656) : k ≤ (correctionStep x k).1 ∧ (correctionStep x k).1 ≤ k + 4194401 := by
 rw [correctionStep_k x k hx h0 h1]
 obtain ⟨b1, b2⟩ := hx
 omega
theorem markCorrectionS_rng (a : List Correction) (k : Int) (ha : ∀ x ∈ a, aidB x.Aid) (hl : a.length ≤ 1048576) (h0 : 0 ≤ k) (h1 : k ≤ 140737488355328) : k ≤ (zyb a k).1 ∧ (zyb a k).1 ≤ k + 4194401 * a.length := by
 rw [markCorrectionS_R]
 exact markR_le correctionStep (fun x => aidB x.Aid) 4194401 281474976710656 (by omega) correctionStep_rng a k ha h0 (by omega)
theorem heldCorrectionS_mark (a : List Correction) (k : Int) (ha : ∀ x ∈ a, aidB x.Aid) (hl : a.length ≤ 1048576) (h0 : 0 ≤ k) (h1 : k ≤ 140737488355328) : zgd (zyb a k).2 k = (zyb a k).1 ∧ ¬ (zyb a k).1 < 0 := by
 refine ⟨?_, by have := markCorrectionS_rng a k ha hl h0 h1; omega⟩
 rw [markCorrectionS_R]
 unfold zgd
 rw [markR_len, Nat.sub_zero]
 rw [markR_held correctionStep (zgd_b1 (markR correctionStep a k).2 k) (fun x => aidB x.Aid) 4194401 281474976710656 (by omega) correctionStep_rng a 0 k ha h0 (by omega) (fun j x s hx g0 g1 g2 => by
  have e : (markR correctionStep a k).2.getD (0 + j) default = (correctionStep x s).2 := by rw [Nat.zero_add, List.getD_eq_getElem?_getD, g2]; rfl
  exact heldCorrection_step _ _ _ x s hx g0 g1 e)]
end Go.Ab

namespace Go.Ab
open Go Go.Proofs
def zvf (a0 : Correction) (a1 : Correction) : Bool :=
 (bif (a0.Kind != a1.Kind) then false else (bif (!(ztc a0.Aid a1.Aid)) then false else true))
namespace N82
theorem DD : DOk Tryz.prog (Go.Ab.DD [(35, dP D_ztc)]) := DD_cons D_ztc_ok.e <| DD_nil _
theorem dn : type_of% (@D_ztc.eq_1) := by and_intros <;> intros <;> rfl
theorem den (a0 : Correction) (a1 : Correction)  : Den Tryz.prog 82 [.agg (eCorrection a0), .agg (eCorrection a1)] (.bool (zvf a0 a1)) := by
 generalize hR : zvf a0 a1 = r
 unfold zvf at hR
 refine di Tryz.func82 Tryz.ntmps82 Tryz.results82 ?_
 intro c hL hc hk
 obtain ⟨hL0, hL1, _⟩ := hL
 have hw0 : bwCorrection a0 := Correction_lens a0 hL0
 have hw1 : bwCorrection a1 := Correction_lens a1 hL1
 clear hL0 hL1
 simp only [pars, Nat.zero_add]
 iterate 2 refine rS ?_
 refine AWP.cond rfl (fun hb => ?_) (fun hb => ?_)
 ·replace hR := ct hR
  refine rS ?_
  refine AWP.ret ?_
  subst hR
  exact es
 ·replace hR := cf hR
  refine rS ?_
  refine AWP.cond rfl (fun hb => ?_) (fun hb => ?_)
  ·replace hR := ct hR
   refine rS ?_
   refine AWP.ret ?_
   subst hR
   exact es
  ·replace hR := cf hR
   refine rS ?_
   refine AWP.ret ?_
   subst hR
   exact es
end N82
def D_zvf : DF
 | [x0, x1] => some (.bool (zvf (rdG dCorrection x0) (rdG dCorrection x1)), false, [wG eCorrection dCorrection x0, wG eCorrection dCorrection x1])
 | _ => none
theorem D_zvf_ok : OkD Tryz.prog 82 D_zvf := by unfold D_zvf; exact dk N82.den
end Go.Ab

namespace Go.Ab
open Go Go.Proofs
def zsb_b1 (a0 : (List Correction)) (a1 : (List Correction)) (i1 : Nat) (s1 : Unit) : Except (Bool) (Unit) :=
 (bif (!(zvf (a0.getD i1 default) (a1.getD i1 default))) then .error false else .ok ())
def zsb (a0 : (List Correction)) (a1 : (List Correction)) : Bool :=
 (bif ((a0.length : Int) != (a1.length : Int)) then false else (match loopR (zsb_b1 a0 a1) (a0.length - 0) 0 () with | .error e => e | .ok s1 => true))
namespace N26
theorem DD : DOk Tryz.prog (Go.Ab.DD [(82, dP D_zvf)]) := DD_cons D_zvf_ok.e <| DD_nil _
theorem dn : type_of% (@D_zvf.eq_1) := by and_intros <;> intros <;> rfl
theorem den (a0 : (List Correction)) (a1 : (List Correction))  : Den Tryz.prog 26 [encL 17 eCorrection a0, encL 17 eCorrection a1] (.bool (zsb a0 a1)) := by
 generalize hR : zsb a0 a1 = r
 unfold zsb at hR
 refine di Tryz.func26 Tryz.ntmps26 Tryz.results26 ?_
 intro c hL hc hk
 obtain ⟨hL0, hL1, _⟩ := hL
 have hw0 : a0.length < 9223372036854775808 := Nat.lt_succ_of_le (lens_encL hL0).1
 have hw1 : ∀ v ∈ a0, bwCorrection v := fun v hv => Correction_lens v ((lens_encL hL0).2 v hv)
 have hw2 : a1.length < 9223372036854775808 := Nat.lt_succ_of_le (lens_encL hL1).1
 have hw3 : ∀ v ∈ a1, bwCorrection v := fun v hv => Correction_lens v ((lens_encL hL1).2 v hv)
 clear hL0 hL1
 simp only [pars, Nat.zero_add]
 iterate 2 refine rS ?_
 refine AWP.cond rfl (fun hb => ?_) (fun hb => ?_)
 ·replace hR := ct hR
  refine rS ?_
  refine AWP.ret ?_
  subst hR
  exact es
 ·replace hR := cf hR
  refine rS ?_
  refine AWP.block ?_
  generalize hz1 : loopR (zsb_b1 a0 a1) (a0.length - 0) 0 () = z1 at hR
  refine AWP.range (zsb_b1 a0 a1) (fun i1 s1 => ⟨[(0, encL 17 eCorrection a0), (1, encL 17 eCorrection a1), (5, .int .i64 (i1 : Int))], []⟩) (fun i1 s1 => True) (a0.length) 0 () [] hz1 ot wt sm ?_
  clear hz1
  intro i1 s1 hi1 hW1 hz1
  refine rS ?_
  refine AWP.cond rfl (fun hb => ?_) (fun hb => ?_)
  ·have hlt1 : i1 < a0.length := ot
   rw [loopR_lt hlt1] at hz1; simp only [zsb_b1] at hz1
   refine rD 8 ?_
   refine AWP.cond rfl (fun hb => ?_) (fun hb => ?_)
   ·simp only [hb, cond_true] at hz1
    refine rS ?_
    refine AWP.ret ?_
    subst hz1
    dsimp only at hR
    subst hR
    exact es
   ·simp only [hb, cond_false] at hz1
    refine rS ?_
    exact ⟨_, [], hlt1, wt, hz1, sm⟩
  ·obtain rfl : i1 = a0.length := ot
   rw [loopR_ge (Nat.le_refl _)] at hz1; subst hz1; dsimp only at hR
   refine AWP.exit ?_; refine exitTo_here ?_
   refine rS ?_
   refine AWP.ret ?_
   subst hR
   exact es
end N26
def D_zsb : DF
 | [x0, x1] => some (.bool (zsb (rdL dCorrection x0) (rdL dCorrection x1)), false, [wL 17 eCorrection dCorrection x0, wL 17 eCorrection dCorrection x1])
 | _ => none
theorem D_zsb_ok : OkD Tryz.prog 26 D_zsb := by unfold D_zsb; exact dk N26.den
end Go.Ab

namespace Go.Ab
open Go Go.Proofs
theorem zvf_dec (a b : Correction) : zvf a b = decide (a = b) := by
 unfold zvf
 simp only [ztc_dec]
 by_cases h : a = b
 ·subst h; simp
 ·rw [decide_eq_false h]
  cases a; cases b
  simp only [Correction.mk.injEq] at h
  simp only [bne_iff_ne, Bool.cond_eq_ite, ite_eq_right_iff]
  (repeat' split) <;> simp_all
end Go.Ab

namespace Go.Ab
open Go Go.Proofs
theorem zsb_dec (a b : List Correction) : zsb a b = decide (a = b) := by
 unfold zsb
 by_cases hl : a.length = b.length
 ·have h1 : ((a.length : Int) != (b.length : Int)) = false := by simp [hl]
  rw [h1, cond_false, loopR_any (b := zsb_b1 a b) (fun j => !decide (a.getD j default = b.getD j default)) false (fun j u _ _ => by simp only [zsb_b1, zvf_dec])]
  simp only [Nat.sub_zero, Nat.zero_add]
  rw [any_ne a b hl]
  by_cases h : a = b <;> simp [h]
 ·have h1 : ((a.length : Int) != (b.length : Int)) = true := by simp; omega
  have h2 : ¬ a = b := fun e => hl (by rw [e])
  rw [h1, cond_true, decide_eq_false h2]
end Go.Ab

namespace Go.Ab
open Go Go.Proofs
theorem markCorrectionS_le (a : List Correction) (k : Int) (h : k ≤ 9223372036854775807) : (zyb a k).1 ≤ 9223372036854775807 := by
 unfold zyb
 obtain ⟨t, h1, h2⟩ := loopR_total (b := zyb_b1 a k) (fun _ s => s.1 ≤ 9223372036854775807) (k := a.length - 0) (i := 0) (s := (k, a)) h (by
  intro j u _ _ h
  exact ⟨_, rfl, wrap_le _⟩)
 rw [h1]
 exact h2
theorem markCorrectionS_len (a : List Correction) (k : Int) : (zyb a k).2.length = a.length := by
 unfold zyb
 obtain ⟨t, h1, h2⟩ := loopR_total (b := zyb_b1 a k) (fun _ s => s.2.length = a.length) (k := a.length - 0) (i := 0) (s := (k, a)) rfl (by
  intro j u _ _ h
  exact ⟨_, rfl, by simpa using h⟩)
 rw [h1]
 exact h2
theorem markCorrectionS_sub (a : List Correction) (k : Int) : subL (zyb a k).2 0 a.length = (zyb a k).2 := by
 rw [← markCorrectionS_len a k]; exact subL_all _
end Go.Ab
