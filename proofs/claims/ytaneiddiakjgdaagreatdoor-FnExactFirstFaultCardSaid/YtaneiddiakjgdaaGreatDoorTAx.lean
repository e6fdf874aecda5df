/- A part of a proof: walks of functions and lemmas of our own. No conditions. -/
import Derived.Test.YtaneiddiakjgdaaGreatDoorTAl
import Derived.Test.YtaneiddiakjgdaaGreatDoorTAm
import Derived.Test.YtaneiddiakjgdaaGreatDoorTAw
import Derived.Test.YtaneiddiakjgdaaGreatDoorTAi
import Derived.Test.YtaneiddiakjgdaaGreatDoorTAo
import Derived.Test.YtaneiddiakjgdaaGreatDoorTAv
set_option linter.unusedSectionVars false
set_option linter.unusedVariables false
set_option linter.unusedSimpArgs false
set_option maxHeartbeats 1000000
namespace Go.Ab
open Go Go.Proofs
def laws_toNoticeS_b1 (a0 : (List Notice)) (i1 : Nat) (s1 : List Notice) : Except ((List Notice)) (List Notice) :=
  .ok (s1.set i1 (laws_toNotice (a0.getD i1 default)))
def laws_toNoticeS (a0 : (List Notice)) : (List Notice) :=
  (match loopR (laws_toNoticeS_b1 a0) (a0.length - 0) 0 (List.replicate a0.length (default : Notice)) with | .error e => e | .ok s1 => s1)
namespace N15
theorem DD : DOk Tryz.prog (Go.Ab.DD [(52, dP D_laws_toNotice)]) := DD_cons D_laws_toNotice_ok.e <| DD_nil _
theorem dn : type_of% (@D_laws_toNotice.eq_1) := by and_intros <;> intros <;> rfl
theorem den (a0 : (List Notice)) (hb0 : a0.length < 1099511627776) (hb1 : ∀ v ∈ a0, bdNotice v) (hp0 : a0.length ≤ 1048576) : Den Tryz.prog 15 [encL 20 eNotice a0] (ownL 90 20 eNoticeO (laws_toNoticeS a0)) := by
  generalize hR : laws_toNoticeS a0 = r
  unfold laws_toNoticeS at hR
  refine di Tryz.func15 Tryz.ntmps15 Tryz.results15 ?_
  intro c hL hc hk
  obtain ⟨hL0, _⟩ := hL
  have hw0 : a0.length < 9223372036854775808 := Nat.lt_succ_of_le (lens_encL hL0).1
  have hw1 : ∀ v ∈ a0, bwNotice v := fun v hv => Notice_lens v ((lens_encL hL0).2 v hv)
  clear hL0
  simp only [pars, Nat.zero_add]
  iterate 2 refine rS ?_
  refine AWP.arrS 0 (fun j => eNoticeO ((List.replicate a0.length (default : Notice)).getD j default)) rfl zs ?_; simp only [setE]
  refine rS ?_
  refine AWP.block ?_
  generalize hz1 : loopR (laws_toNoticeS_b1 a0) (a0.length - 0) 0 (List.replicate a0.length (default : Notice)) = z1 at hR
  refine AWP.range (laws_toNoticeS_b1 a0) (fun i1 s1 => ⟨[(0, encL 20 eNotice a0), (3, .ref 0 20 0 s1.length), (4, .int .i64 (i1 : Int))], [.arr 90 20 s1.length (fun j => eNoticeO (s1.getD j default))]⟩) (fun i1 s1 => s1.length = (List.replicate a0.length (default : Notice)).length) (a0.length) 0 (List.replicate a0.length (default : Notice)) [0] hz1 ot wt sm ?_
  clear hz1
  intro i1 s1 hi1 hW1 hz1
  refine rS ?_
  refine AWP.cond rfl (fun hb => ?_) (fun hb => ?_)
  · have hlt1 : i1 < a0.length := ot
    rw [loopR_lt hlt1] at hz1; simp only [laws_toNoticeS_b1] at hz1
    iterate 2 refine rS ?_
    exact ⟨_, [0], hlt1, wt, hz1, sm⟩
  · obtain rfl : i1 = a0.length := ot
    rw [loopR_ge (Nat.le_refl _)] at hz1; subst hz1; dsimp only at hR
    refine AWP.exit ?_; refine exitTo_here ?_
    refine rS ?_
    refine AWP.ret ?_
    subst hR
    exact es
end N15
def D_laws_toNoticeS : DF
  | [x0] => some (ownL 90 20 eNoticeO (laws_toNoticeS (rdL dNotice x0)), false, [wL 20 eNotice dNotice x0, (rdL dNotice x0).length < 1099511627776, ∀ v ∈ (rdL dNotice x0), bdNotice v, (rdL dNotice x0).length ≤ 1048576])
  | _ => none
def Dz_laws_toNoticeS : DF
  | [x0] => some (ownL 90 20 eNoticeO (laws_toNoticeS (rdL dNotice x0)), true, [wL 20 eNotice dNotice x0, (rdL dNotice x0).length < 1099511627776, ∀ v ∈ (rdL dNotice x0), bdNotice v, (rdL dNotice x0).length ≤ 1048576])
  | _ => none
theorem D_laws_toNoticeS_ok : OkD Tryz.prog 15 D_laws_toNoticeS := by unfold D_laws_toNoticeS; exact dk N15.den
theorem Dz_laws_toNoticeS_ok : OkD Tryz.prog 15 Dz_laws_toNoticeS := by unfold Dz_laws_toNoticeS; exact dk N15.den
end Go.Ab

namespace Go.Ab
open Go Go.Proofs
theorem laws_toNotice_id (v : Notice) : laws_toNotice v = v := by
  unfold laws_toNotice
  simp only [laws_toAid_id]
end Go.Ab

namespace Go.Ab
open Go Go.Proofs
theorem laws_toNoticeS_id (a : List Notice) : laws_toNoticeS a = a := by
  unfold laws_toNoticeS
  rw [loopR_fill (b := laws_toNoticeS_b1 a) (fun i => laws_toNotice (a.getD i default)) (by simp) (fun i s _ => rfl)]
  simp only [laws_toNotice_id]
  exact range_getD a
end Go.Ab

namespace Go.Ab
open Go Go.Proofs
def laws_eqNotice (a0 : Notice) (a1 : Notice) : Bool :=
  (bif (a0.Number != a1.Number) then false else (bif (a0.Day != a1.Day) then false else (bif (a0.Kind != a1.Kind) then false else (bif (a0.Target != a1.Target) then false else (bif (!(laws_eqAid a0.Aid a1.Aid)) then false else true)))))
namespace N54
theorem DD : DOk Tryz.prog (Go.Ab.DD [(35, dP D_laws_eqAid)]) := DD_cons D_laws_eqAid_ok.e <| DD_nil _
theorem dn : type_of% (@D_laws_eqAid.eq_1) := by and_intros <;> intros <;> rfl
theorem den (a0 : Notice) (a1 : Notice)  : Den Tryz.prog 54 [.agg (eNotice a0), .agg (eNotice a1)] (.bool (laws_eqNotice a0 a1)) := by
  generalize hR : laws_eqNotice a0 a1 = r
  unfold laws_eqNotice at hR
  refine di Tryz.func54 Tryz.ntmps54 Tryz.results54 ?_
  intro c hL hc hk
  obtain ⟨hL0, hL1, _⟩ := hL
  have hw0 : bwNotice a0 := Notice_lens a0 hL0
  have hw1 : bwNotice a1 := Notice_lens a1 hL1
  clear hL0 hL1
  simp only [pars, Nat.zero_add]
  iterate 2 refine rS ?_
  refine AWP.cond rfl (fun hb => ?_) (fun hb => ?_)
  · replace hR := ct hR
    refine rS ?_
    refine AWP.ret ?_
    subst hR
    exact es
  · replace hR := cf hR
    refine rS ?_
    refine AWP.cond rfl (fun hb => ?_) (fun hb => ?_)
    · replace hR := ct hR
      refine rS ?_
      refine AWP.ret ?_
      subst hR
      exact es
    · replace hR := cf hR
      refine rS ?_
      refine AWP.cond rfl (fun hb => ?_) (fun hb => ?_)
      · replace hR := ct hR
        refine rS ?_
        refine AWP.ret ?_
        subst hR
        exact es
      · replace hR := cf hR
        refine rS ?_
        refine AWP.cond rfl (fun hb => ?_) (fun hb => ?_)
        · replace hR := ct hR
          refine rS ?_
          refine AWP.ret ?_
          subst hR
          exact es
        · replace hR := cf hR
          refine rS ?_
          refine AWP.cond rfl (fun hb => ?_) (fun hb => ?_)
          · replace hR := ct hR
            refine rS ?_
            refine AWP.ret ?_
            subst hR
            exact es
          · replace hR := cf hR
            refine rS ?_
            refine AWP.ret ?_
            subst hR
            exact es
end N54
def D_laws_eqNotice : DF
  | [x0, x1] => some (.bool (laws_eqNotice (rdG dNotice x0) (rdG dNotice x1)), false, [wG eNotice dNotice x0, wG eNotice dNotice x1])
  | _ => none
theorem D_laws_eqNotice_ok : OkD Tryz.prog 54 D_laws_eqNotice := by unfold D_laws_eqNotice; exact dk N54.den
end Go.Ab

namespace Go.Ab
open Go Go.Proofs
def laws_eqNoticeS_b1 (a0 : (List Notice)) (a1 : (List Notice)) (i1 : Nat) (s1 : Unit) : Except (Bool) (Unit) :=
  (bif (!(laws_eqNotice (a0.getD i1 default) (a1.getD i1 default))) then .error false else .ok ())
def laws_eqNoticeS (a0 : (List Notice)) (a1 : (List Notice)) : Bool :=
  (bif ((a0.length : Int) != (a1.length : Int)) then false else (match loopR (laws_eqNoticeS_b1 a0 a1) (a0.length - 0) 0 () with | .error e => e | .ok s1 => true))
namespace N18
theorem DD : DOk Tryz.prog (Go.Ab.DD [(54, dP D_laws_eqNotice)]) := DD_cons D_laws_eqNotice_ok.e <| DD_nil _
theorem dn : type_of% (@D_laws_eqNotice.eq_1) := by and_intros <;> intros <;> rfl
theorem den (a0 : (List Notice)) (a1 : (List Notice))  : Den Tryz.prog 18 [encL 20 eNotice a0, encL 20 eNotice a1] (.bool (laws_eqNoticeS a0 a1)) := by
  generalize hR : laws_eqNoticeS a0 a1 = r
  unfold laws_eqNoticeS at hR
  refine di Tryz.func18 Tryz.ntmps18 Tryz.results18 ?_
  intro c hL hc hk
  obtain ⟨hL0, hL1, _⟩ := hL
  have hw0 : a0.length < 9223372036854775808 := Nat.lt_succ_of_le (lens_encL hL0).1
  have hw1 : ∀ v ∈ a0, bwNotice v := fun v hv => Notice_lens v ((lens_encL hL0).2 v hv)
  have hw2 : a1.length < 9223372036854775808 := Nat.lt_succ_of_le (lens_encL hL1).1
  have hw3 : ∀ v ∈ a1, bwNotice v := fun v hv => Notice_lens v ((lens_encL hL1).2 v hv)
  clear hL0 hL1
  simp only [pars, Nat.zero_add]
  iterate 2 refine rS ?_
  refine AWP.cond rfl (fun hb => ?_) (fun hb => ?_)
  · replace hR := ct hR
    refine rS ?_
    refine AWP.ret ?_
    subst hR
    exact es
  · replace hR := cf hR
    refine rS ?_
    refine AWP.block ?_
    generalize hz1 : loopR (laws_eqNoticeS_b1 a0 a1) (a0.length - 0) 0 () = z1 at hR
    refine AWP.range (laws_eqNoticeS_b1 a0 a1) (fun i1 s1 => ⟨[(0, encL 20 eNotice a0), (1, encL 20 eNotice a1), (5, .int .i64 (i1 : Int))], []⟩) (fun i1 s1 => True) (a0.length) 0 () [] hz1 ot wt sm ?_
    clear hz1
    intro i1 s1 hi1 hW1 hz1
    refine rS ?_
    refine AWP.cond rfl (fun hb => ?_) (fun hb => ?_)
    · have hlt1 : i1 < a0.length := ot
      rw [loopR_lt hlt1] at hz1; simp only [laws_eqNoticeS_b1] at hz1
      refine rD 8 ?_
      refine AWP.cond rfl (fun hb => ?_) (fun hb => ?_)
      · simp only [hb, cond_true] at hz1
        refine rS ?_
        refine AWP.ret ?_
        subst hz1
        dsimp only at hR
        subst hR
        exact es
      · simp only [hb, cond_false] at hz1
        refine rS ?_
        exact ⟨_, [], hlt1, wt, hz1, sm⟩
    · obtain rfl : i1 = a0.length := ot
      rw [loopR_ge (Nat.le_refl _)] at hz1; subst hz1; dsimp only at hR
      refine AWP.exit ?_; refine exitTo_here ?_
      refine rS ?_
      refine AWP.ret ?_
      subst hR
      exact es
end N18
def D_laws_eqNoticeS : DF
  | [x0, x1] => some (.bool (laws_eqNoticeS (rdL dNotice x0) (rdL dNotice x1)), false, [wL 20 eNotice dNotice x0, wL 20 eNotice dNotice x1])
  | _ => none
theorem D_laws_eqNoticeS_ok : OkD Tryz.prog 18 D_laws_eqNoticeS := by unfold D_laws_eqNoticeS; exact dk N18.den
end Go.Ab

namespace Go.Ab
open Go Go.Proofs
theorem laws_eqNotice_dec (a b : Notice) : laws_eqNotice a b = decide (a = b) := by
  unfold laws_eqNotice
  simp only [laws_eqAid_dec]
  by_cases h : a = b
  · subst h; simp
  · rw [decide_eq_false h]
    cases a; cases b
    simp only [Notice.mk.injEq] at h
    simp only [bne_iff_ne, Bool.cond_eq_ite, ite_eq_right_iff]
    (repeat' split) <;> simp_all
end Go.Ab

namespace Go.Ab
open Go Go.Proofs
theorem laws_eqNoticeS_dec (a b : List Notice) : laws_eqNoticeS a b = decide (a = b) := by
  unfold laws_eqNoticeS
  by_cases hl : a.length = b.length
  · have h1 : ((a.length : Int) != (b.length : Int)) = false := by simp [hl]
    rw [h1, cond_false, loopR_any (b := laws_eqNoticeS_b1 a b) (fun j => !decide (a.getD j default = b.getD j default)) false (fun j u _ _ => by simp only [laws_eqNoticeS_b1, laws_eqNotice_dec])]
    simp only [Nat.sub_zero, Nat.zero_add]
    rw [any_ne a b hl]
    by_cases h : a = b <;> simp [h]
  · have h1 : ((a.length : Int) != (b.length : Int)) = true := by simp; omega
    have h2 : ¬ a = b := fun e => hl (by rw [e])
    rw [h1, cond_true, decide_eq_false h2]
end Go.Ab

namespace Go.Ab
open Go Go.Proofs
def laws_szNotice (a0 : Notice) (a1 : Int) : Int :=
  (bif decide ((laws_szAid a0.Aid a1) < 0) then (-1) else (laws_szAid a0.Aid a1))
namespace N50
theorem DD : DOk Tryz.prog (Go.Ab.DD [(31, dP D_laws_szAid)]) := DD_cons D_laws_szAid_ok.e <| DD_nil _
theorem dn : type_of% (@D_laws_szAid.eq_1) := by and_intros <;> intros <;> rfl
theorem den (a0 : Notice) (a1 : Int)  : Den Tryz.prog 50 [.agg (eNotice a0), .int .i64 a1] (.int .i64 (laws_szNotice a0 a1)) := by
  generalize hR : laws_szNotice a0 a1 = r
  unfold laws_szNotice at hR
  refine di Tryz.func50 Tryz.ntmps50 Tryz.results50 ?_
  intro c hL hc hk
  obtain ⟨hL0, hL1, _⟩ := hL
  have hw0 : bwNotice a0 := Notice_lens a0 hL0
  clear hL0 hL1
  simp only [pars, Nat.zero_add]
  iterate 3 refine rS ?_
  refine AWP.cond rfl (fun hb => ?_) (fun hb => ?_)
  · replace hR := ct hR
    refine rS ?_
    refine AWP.ret ?_
    subst hR
    exact es
  · replace hR := cf hR
    refine rS ?_
    refine AWP.ret ?_
    subst hR
    exact es
end N50
def D_laws_szNotice : DF
  | [x0, x1] => some (.int .i64 (laws_szNotice (rdG dNotice x0) (rdI x1)), false, [wG eNotice dNotice x0, wI .i64 x1])
  | _ => none
theorem D_laws_szNotice_ok : OkD Tryz.prog 50 D_laws_szNotice := by unfold D_laws_szNotice; exact dk N50.den
end Go.Ab

namespace Go.Ab
open Go Go.Proofs
theorem laws_szNotice_facts (x : Notice) (n : Int) (h0 : -1 ≤ n) (h1 : n ≤ 1048576) (hx : bwNotice x) : -1 ≤ laws_szNotice x n ∧ laws_szNotice x n ≤ n ∧ (¬ laws_szNotice x n < 0 → smNotice x) := by
  have b0 := hx
  unfold laws_szNotice
  have f0 := laws_szAid_facts x.Aid (n) (by omega) (by omega) b0
  by_cases c0 : laws_szAid x.Aid (n) < 0
  · rw [decide_eq_true c0]; exact ⟨by simp, by simpa using h0, fun h => absurd (by simp) h⟩
  rw [decide_eq_false c0]
  simp only [cond_false]
  exact ⟨by omega, by omega, fun _ => f0.2.2 c0⟩
end Go.Ab

namespace Go.Ab
open Go Go.Proofs
def laws_szNoticeS_b1 (a0 : (List Notice)) (a1 : Int) (i1 : Nat) (s1 : Int) : Except (Int) (Int) :=
  (bif decide ((laws_szNotice (a0.getD i1 default) s1) < 0) then .error (-1) else .ok (laws_szNotice (a0.getD i1 default) s1))
def laws_szNoticeS (a0 : (List Notice)) (a1 : Int) : Int :=
  (bif decide ((IntKind.wrap .i64 (a1 - (a0.length : Int))) < 0) then (-1) else (match loopR (laws_szNoticeS_b1 a0 a1) (a0.length - 0) 0 (IntKind.wrap .i64 (a1 - (a0.length : Int))) with | .error e => e | .ok s1 => s1))
namespace N13
theorem DD : DOk Tryz.prog (Go.Ab.DD [(50, dP D_laws_szNotice)]) := DD_cons D_laws_szNotice_ok.e <| DD_nil _
theorem dn : type_of% (@D_laws_szNotice.eq_1) := by and_intros <;> intros <;> rfl
theorem den (a0 : (List Notice)) (a1 : Int)  : Den Tryz.prog 13 [encL 20 eNotice a0, .int .i64 a1] (.int .i64 (laws_szNoticeS a0 a1)) := by
  generalize hR : laws_szNoticeS a0 a1 = r
  unfold laws_szNoticeS at hR
  refine di Tryz.func13 Tryz.ntmps13 Tryz.results13 ?_
  intro c hL hc hk
  obtain ⟨hL0, hL1, _⟩ := hL
  have hw0 : a0.length < 9223372036854775808 := Nat.lt_succ_of_le (lens_encL hL0).1
  have hw1 : ∀ v ∈ a0, bwNotice v := fun v hv => Notice_lens v ((lens_encL hL0).2 v hv)
  clear hL0 hL1
  simp only [pars, Nat.zero_add]
  iterate 3 refine rS ?_
  refine AWP.cond rfl (fun hb => ?_) (fun hb => ?_)
  · replace hR := ct hR
    refine rS ?_
    refine AWP.ret ?_
    subst hR
    exact es
  · replace hR := cf hR
    refine rS ?_
    refine AWP.block ?_
    generalize hz1 : loopR (laws_szNoticeS_b1 a0 a1) (a0.length - 0) 0 (IntKind.wrap .i64 (a1 - (a0.length : Int))) = z1 at hR
    refine AWP.range (laws_szNoticeS_b1 a0 a1) (fun i1 s1 => ⟨[(0, encL 20 eNotice a0), (1, .int .i64 s1), (5, .int .i64 (i1 : Int))], []⟩) (fun i1 s1 => True) (a0.length) 0 (IntKind.wrap .i64 (a1 - (a0.length : Int))) [] hz1 ot wt sm ?_
    clear hz1
    intro i1 s1 hi1 hW1 hz1
    refine rS ?_
    refine AWP.cond rfl (fun hb => ?_) (fun hb => ?_)
    · have hlt1 : i1 < a0.length := ot
      rw [loopR_lt hlt1] at hz1; simp only [laws_szNoticeS_b1] at hz1
      iterate 2 refine rS ?_
      refine AWP.cond rfl (fun hb => ?_) (fun hb => ?_)
      · simp only [hb, cond_true] at hz1
        refine rS ?_
        refine AWP.ret ?_
        subst hz1
        dsimp only at hR
        subst hR
        exact es
      · simp only [hb, cond_false] at hz1
        refine rS ?_
        exact ⟨_, [], hlt1, wt, hz1, sm⟩
    · obtain rfl : i1 = a0.length := ot
      rw [loopR_ge (Nat.le_refl _)] at hz1; subst hz1; dsimp only at hR
      refine AWP.exit ?_; refine exitTo_here ?_
      refine rS ?_
      refine AWP.ret ?_
      subst hR
      exact es
end N13
def D_laws_szNoticeS : DF
  | [x0, x1] => some (.int .i64 (laws_szNoticeS (rdL dNotice x0) (rdI x1)), false, [wL 20 eNotice dNotice x0, wI .i64 x1])
  | _ => none
theorem D_laws_szNoticeS_ok : OkD Tryz.prog 13 D_laws_szNoticeS := by unfold D_laws_szNoticeS; exact dk N13.den
end Go.Ab

namespace Go.Ab
open Go Go.Proofs
theorem laws_szNoticeS_facts (a : List Notice) (n : Int) (h0 : -1 ≤ n) (h1 : n ≤ 1048576) (hl : a.length < 9223372036854775808) (hx : ∀ v ∈ a, bwNotice v) :
    -1 ≤ laws_szNoticeS a n ∧ laws_szNoticeS a n ≤ n ∧ (¬ laws_szNoticeS a n < 0 → a.length ≤ 1048576 ∧ ∀ v ∈ a, smNotice v) := by
  unfold laws_szNoticeS
  rw [show IntKind.wrap .i64 (n - (a.length : Int)) = n - a.length from by rw [IntKind.wrap_i64]; omega]
  by_cases c : n - (a.length : Int) < 0
  · rw [decide_eq_true c]; exact ⟨by simp, by simpa using h0, fun h => absurd (by simp) h⟩
  · rw [decide_eq_false c]
    simp only [cond_false]
    split
    · rename_i e h
      obtain ⟨j, t, _, _, h3⟩ := loopR_error h
      simp only [laws_szNoticeS_b1] at h3
      have : e = -1 := by
        cases hq : decide (laws_szNotice (a.getD j default) t < 0) with
        | true => rw [hq] at h3; simpa using h3.symm
        | false => rw [hq] at h3; simp at h3
      omega
    · rename_i s h
      have := loopR_inv (b := laws_szNoticeS_b1 a n) (fun i s => -1 ≤ s ∧ s ≤ n - a.length ∧ ∀ j, j < i → smNotice (a.getD j default)) ⟨by omega, by omega, by intro j hj; omega⟩ (by
        intro j u v h1 h2 ⟨h3, h4, h5⟩ h6
        simp only [laws_szNoticeS_b1] at h6
        have hb : bwNotice (a.getD j default) := bd_getD hx (by decide) j
        have hf := laws_szNotice_facts (a.getD j default) u h3 (by omega) hb
        cases hq : decide (laws_szNotice (a.getD j default) u < 0) with
        | true => rw [hq] at h6; simp at h6
        | false =>
          rw [hq] at h6
          simp only [cond_false, Except.ok.injEq] at h6
          subst h6
          refine ⟨by omega, by omega, fun q hq2 => ?_⟩
          by_cases hqj : q = j
          · subst hqj; exact hf.2.2 (of_decide_eq_false hq)
          · exact h5 q (by omega)) h
      refine ⟨by omega, by omega, fun _ => ⟨by omega, fun v hv => ?_⟩⟩
      obtain ⟨i, hi, rfl⟩ := List.getElem_of_mem hv
      have := this.2.2 i (by omega)
      simpa [List.getD_eq_getElem?_getD, hi] using this
end Go.Ab

namespace Go.Ab
open Go Go.Proofs
def laws_FnExactFirstFault (a0 : (List Aid)) (a1 : (List Notice)) (a2 : Int) : Bool :=
  (bif decide ((laws_szAidS a0 1048576) < 0) then true else (bif decide ((laws_szNoticeS a1 (laws_szAidS a0 1048576)) < 0) then true else (bif ((((impl_FirstFault (laws_toAidS a0) (laws_toNoticeS a1) a2).1) != ((spec_FirstFault (laws_toAidS a0) (laws_toNoticeS a1) a2).1)) || (((impl_FirstFault (laws_toAidS a0) (laws_toNoticeS a1) a2).2) != ((spec_FirstFault (laws_toAidS a0) (laws_toNoticeS a1) a2).2))) then false else (bif (!(laws_eqAidS (laws_toAidS a0) (laws_toAidS a0))) then false else (bif (!(laws_eqNoticeS (laws_toNoticeS a1) (laws_toNoticeS a1))) then false else true)))))
namespace N9
theorem DD : DOk Tryz.prog (Go.Ab.DD [(13, dP D_laws_szNoticeS), (15, dP D_laws_toNoticeS), (18, dP D_laws_eqNoticeS), (22, dP D_laws_szAidS), (24, dP D_laws_toAidS), (27, dP D_laws_eqAidS), (45, dP D_impl_FirstFault), (57, dP D_spec_FirstFault)]) := DD_cons D_laws_szNoticeS_ok.e <| DD_cons D_laws_toNoticeS_ok.e <| DD_cons D_laws_eqNoticeS_ok.e <| DD_cons D_laws_szAidS_ok.e <| DD_cons D_laws_toAidS_ok.e <| DD_cons D_laws_eqAidS_ok.e <| DD_cons D_impl_FirstFault_ok.e <| DD_cons D_spec_FirstFault_ok.e <| DD_nil _
theorem dn : type_of% (And.intro @D_laws_szNoticeS.eq_1 <| And.intro @D_laws_toNoticeS.eq_1 <| And.intro @D_laws_eqNoticeS.eq_1 <| And.intro @D_laws_szAidS.eq_1 <| And.intro @D_laws_toAidS.eq_1 <| And.intro @D_laws_eqAidS.eq_1 <| And.intro @D_impl_FirstFault.eq_1 <| @D_spec_FirstFault.eq_1) := by and_intros <;> intros <;> rfl
theorem ol : type_of% (And.intro @laws_toNoticeS_id <| @laws_toAidS_id) := And.intro @laws_toNoticeS_id <| @laws_toAidS_id
theorem o1 {p : Prop} (h : p := by (first | ((try simp only [ol]); first | (have h9 := hG0 (by assumption); first | exact h9.2 | exact h9.1 | omega) | (have h9 := hG1 (by assumption); first | exact h9.2 | exact h9.1 | omega))); first | done | fail) : p := h
set_option maxHeartbeats 4000000 in
set_option maxRecDepth 20000 in
theorem _root_.Go.Ab.laws_FnExactFirstFault_den (a0 : (List Aid)) (a1 : (List Notice)) (a2 : Int)  : Den Tryz.prog 9 [encL 16 eAid a0, encL 20 eNotice a1, .int .i64 a2] (.bool (laws_FnExactFirstFault a0 a1 a2)) := by
  generalize hR : laws_FnExactFirstFault a0 a1 a2 = r
  unfold laws_FnExactFirstFault at hR
  refine di Tryz.func9 Tryz.ntmps9 Tryz.results9 ?_
  intro c hL hc hk
  obtain ⟨hL0, hL1, hL2, _⟩ := hL
  have hw0 : a0.length < 9223372036854775808 := Nat.lt_succ_of_le (lens_encL hL0).1
  have hw1 : ∀ v ∈ a0, bwAid v := fun v hv => Aid_lens v ((lens_encL hL0).2 v hv)
  have hw2 : a1.length < 9223372036854775808 := Nat.lt_succ_of_le (lens_encL hL1).1
  have hw3 : ∀ v ∈ a1, bwNotice v := fun v hv => Notice_lens v ((lens_encL hL1).2 v hv)
  clear hL0 hL1 hL2
  simp only [pars, Nat.zero_add]
  have hf0 := laws_szAidS_facts a0 (1048576) (by omega) (by omega) hw0 hw1
  have hf1 := laws_szNoticeS_facts a1 (laws_szAidS a0 (1048576)) (by omega) (by omega) hw2 hw3
  have hG0 : decide (laws_szAidS a0 (1048576) < 0) = false → a0.length ≤ 1048576 ∧ ∀ x ∈ a0, bdAid x := fun h => ⟨(hf0.2.2 (of_decide_eq_false h)).1, fun x hx => smAid_bd x ((hf0.2.2 (of_decide_eq_false h)).2 x hx)⟩
  have hG1 : decide (laws_szNoticeS a1 (laws_szAidS a0 (1048576)) < 0) = false → a1.length ≤ 1048576 ∧ ∀ x ∈ a1, bdNotice x := fun h => ⟨(hf1.2.2 (of_decide_eq_false h)).1, fun x hx => smNotice_bd x ((hf1.2.2 (of_decide_eq_false h)).2 x hx)⟩
  iterate 4 refine rS ?_
  refine AWP.cond rfl (fun hb => ?_) (fun hb => ?_)
  · replace hR := ct hR
    refine rS ?_
    refine AWP.ret ?_
    subst hR
    exact es
  · replace hR := cf hR
    iterate 2 refine rS ?_
    refine AWP.cond rfl (fun hb => ?_) (fun hb => ?_)
    · replace hR := ct hR
      refine rS ?_
      refine AWP.ret ?_
      subst hR
      exact es
    · replace hR := cf hR
      iterate 5 refine rS ?_
      refine AWP.cond rfl (fun hb => ?_) (fun hb => ?_)
      · replace hR := ct hR
        refine rS ?_
        refine AWP.ret ?_
        subst hR
        exact es
      · replace hR := cf hR
        refine rS ?_
        refine AWP.cond rfl (fun hb => ?_) (fun hb => ?_)
        · replace hR := ct hR
          refine rS ?_
          refine AWP.ret ?_
          subst hR
          exact es
        · replace hR := cf hR
          refine rS ?_
          refine AWP.cond rfl (fun hb => ?_) (fun hb => ?_)
          · replace hR := ct hR
            refine rS ?_
            refine AWP.ret ?_
            subst hR
            exact es
          · replace hR := cf hR
            refine rS ?_
            refine AWP.ret ?_
            subst hR
            exact es
end N9
end Go.Ab

namespace Go.Ab
open Go Go.Proofs
theorem bw_aidL' {v : Aid} (h : bwAid v) (h2 : v.Sectors.length ≤ 1048576) : aidL v := ⟨h.2.2.1.2.2, by omega⟩
theorem law_FirstFault (a0 : List Aid) (a1 : List Notice) (a2 : Int) (hl : a0.length < 9223372036854775808) (hv : ∀ v ∈ a0, bwAid v) (hl1 : a1.length < 9223372036854775808) (hv1 : ∀ v ∈ a1, bwNotice v) : laws_FnExactFirstFault a0 a1 a2 = true := by
  unfold laws_FnExactFirstFault
  have f0 := laws_szAidS_facts a0 1048576 (by omega) (by omega) hl hv
  by_cases c0 : laws_szAidS a0 1048576 < 0
  · rw [decide_eq_true c0]; rfl
  rw [decide_eq_false c0]
  have f1 := laws_szNoticeS_facts a1 (laws_szAidS a0 1048576) (by omega) (by omega) hl1 hv1
  by_cases c1 : laws_szNoticeS a1 (laws_szAidS a0 1048576) < 0
  · rw [decide_eq_true c1]; rfl
  rw [decide_eq_false c1]
  simp only [cond_false]
  obtain ⟨g0, g1⟩ := f0.2.2 c0
  obtain ⟨k0, k1⟩ := f1.2.2 c1
  simp only [laws_toAidS_id, laws_toNoticeS_id, laws_eqAidS_dec, laws_eqNoticeS_dec]
  rw [fault_eq aidL (fun _ h => h) a0 a1 a2 (fun v h => bw_aidL' (hv v h) (g1 v h).2.2.2.1) (fun n h => bw_aidL' (hv1 n h) (k1 n h).2.2.2.1)]
  simp
end Go.Ab
