/- A part of a proof: walks of functions and lemmas of our own. No conditions. -/
import Derived.Test.YtaneiddiakjgdaaGreatDoorUAl
import Derived.Test.YtaneiddiakjgdaaGreatDoorUAi
import Derived.Test.YtaneiddiakjgdaaGreatDoorUAq
import Derived.Test.YtaneiddiakjgdaaGreatDoorUBa
import Derived.Test.YtaneiddiakjgdaaGreatDoorUAp
import Derived.Test.YtaneiddiakjgdaaGreatDoorUAz
set_option linter.unusedSectionVars false
set_option linter.unusedVariables false
set_option linter.unusedSimpArgs false
set_option maxHeartbeats 1000000
namespace Go.Ab
open Go Go.Proofs
def zmb (a0 : (List Int)) (a1 : Int) : Int :=
 (bif decide ((IntKind.wrap .i64 (a1 - (a0.length : Int))) < 0) then (-1) else IntKind.wrap .i64 (a1 - (a0.length : Int)))
namespace N146
theorem DD : DOk Tryz.prog (Go.Ab.DD []) := DD_nil _
theorem den (a0 : (List Int)) (a1 : Int)  : Den Tryz.prog 146 [encL 1 eIi64 a0, .int .i64 a1] (.int .i64 (zmb a0 a1)) := by
 generalize hR : zmb a0 a1 = r
 unfold zmb at hR
 refine di Tryz.func146 Tryz.ntmps146 Tryz.results146 ?_
 intro c hL hc hk
 obtain ⟨hL0, hL1, _⟩ := hL
 have hw0 : a0.length < 9223372036854775808 := Nat.lt_succ_of_le (lens_encL hL0).1
 clear hL0 hL1
 simp only [pars, Nat.zero_add]
 iterate 3 refine rS ?_
 refine AWP.cond rfl (fun hb => ?_) (fun hb => ?_)
 ·replace hR := ct hR
  refine rS ?_
  refine AWP.ret ?_
  subst hR
  exact es
 ·replace hR := cf hR
  refine rS ?_
  refine AWP.ret ?_
  subst hR
  exact es
end N146
def D_zmb : DF
 | [x0, x1] => some (.int .i64 (zmb (rdL dIi64 x0) (rdI x1)), false, [wL 1 eIi64 dIi64 x0, wI .i64 x1])
 | _ => none
theorem D_zmb_ok : OkD Tryz.prog 146 D_zmb := by unfold D_zmb; exact dk N146.den
end Go.Ab

namespace Go.Ab
open Go Go.Proofs
theorem zmb_facts (a : List Int) (n : Int) (h0 : -1 ≤ n) (h1 : n ≤ 1048576) (hl : a.length < 9223372036854775808) :
  -1 ≤ zmb a n ∧ zmb a n ≤ n ∧ (¬ zmb a n < 0 → a.length ≤ 1048576) := by
 unfold zmb
 rw [show IntKind.wrap .i64 (n - (a.length : Int)) = n - a.length from by rw [IntKind.wrap_i64]; omega]
 by_cases c : n - (a.length : Int) < 0
 ·rw [decide_eq_true c]; exact ⟨by simp, by simpa using h0, fun h => absurd (by simp) h⟩
 ·rw [decide_eq_false c]; simp only [cond_false]; omega
end Go.Ab

namespace Go.Ab
open Go Go.Proofs
def zkc (a0 : Character) (a1 : Int) : Int :=
 (bif decide ((zmb a0.Group a1) < 0) then (-1) else (bif decide ((IntKind.wrap .i64 ((zmb a0.Group a1) - (a0.Letter.length : Int))) < 0) then (-1) else (bif decide ((IntKind.wrap .i64 ((IntKind.wrap .i64 ((zmb a0.Group a1) - (a0.Letter.length : Int))) - (a0.Colors.length : Int))) < 0) then (-1) else IntKind.wrap .i64 ((IntKind.wrap .i64 ((zmb a0.Group a1) - (a0.Letter.length : Int))) - (a0.Colors.length : Int)))))
namespace N85
theorem DD : DOk Tryz.prog (Go.Ab.DD [(146, dP D_zmb)]) := DD_cons D_zmb_ok.e <| DD_nil _
theorem dn : type_of% (@D_zmb.eq_1) := by and_intros <;> intros <;> rfl
theorem den (a0 : Character) (a1 : Int)  : Den Tryz.prog 85 [.agg (eCharacter a0), .int .i64 a1] (.int .i64 (zkc a0 a1)) := by
 generalize hR : zkc a0 a1 = r
 unfold zkc at hR
 refine di Tryz.func85 Tryz.ntmps85 Tryz.results85 ?_
 intro c hL hc hk
 obtain ⟨hL0, hL1, _⟩ := hL
 have hw0 : bwCharacter a0 := Character_lens a0 hL0
 clear hL0 hL1
 simp only [pars, Nat.zero_add]
 iterate 3 refine rS ?_
 refine AWP.cond rfl (fun hb => ?_) (fun hb => ?_)
 ·replace hR := ct hR
  refine rS ?_
  refine AWP.ret ?_
  subst hR
  exact es
 ·replace hR := cf hR
  iterate 2 refine rS ?_
  refine AWP.cond rfl (fun hb => ?_) (fun hb => ?_)
  ·replace hR := ct hR
   refine rS ?_
   refine AWP.ret ?_
   subst hR
   exact es
  ·replace hR := cf hR
   iterate 2 refine rS ?_
   refine AWP.cond rfl (fun hb => ?_) (fun hb => ?_)
   ·replace hR := ct hR
    refine rS ?_
    refine AWP.ret ?_
    subst hR
    exact es
   ·replace hR := cf hR
    refine rS ?_
    refine AWP.ret ?_
    subst hR
    exact es
end N85
def D_zkc : DF
 | [x0, x1] => some (.int .i64 (zkc (rdG dCharacter x0) (rdI x1)), false, [wG eCharacter dCharacter x0, wI .i64 x1])
 | _ => none
theorem D_zkc_ok : OkD Tryz.prog 85 D_zkc := by unfold D_zkc; exact dk N85.den
end Go.Ab

namespace Go.Ab
open Go Go.Proofs
def zyc (a0 : Sector) (a1 : Int) : Int :=
 (bif decide ((IntKind.wrap .i64 (a1 - (a0.Color.length : Int))) < 0) then (-1) else IntKind.wrap .i64 (a1 - (a0.Color.length : Int)))
namespace N147
theorem DD : DOk Tryz.prog (Go.Ab.DD []) := DD_nil _
theorem den (a0 : Sector) (a1 : Int)  : Den Tryz.prog 147 [.agg (eSector a0), .int .i64 a1] (.int .i64 (zyc a0 a1)) := by
 generalize hR : zyc a0 a1 = r
 unfold zyc at hR
 refine di Tryz.func147 Tryz.ntmps147 Tryz.results147 ?_
 intro c hL hc hk
 obtain ⟨hL0, hL1, _⟩ := hL
 have hw0 : bwSector a0 := Sector_lens a0 hL0
 clear hL0 hL1
 simp only [pars, Nat.zero_add]
 iterate 3 refine rS ?_
 refine AWP.cond rfl (fun hb => ?_) (fun hb => ?_)
 ·replace hR := ct hR
  refine rS ?_
  refine AWP.ret ?_
  subst hR
  exact es
 ·replace hR := cf hR
  refine rS ?_
  refine AWP.ret ?_
  subst hR
  exact es
end N147
def D_zyc : DF
 | [x0, x1] => some (.int .i64 (zyc (rdG dSector x0) (rdI x1)), false, [wG eSector dSector x0, wI .i64 x1])
 | _ => none
theorem D_zyc_ok : OkD Tryz.prog 147 D_zyc := by unfold D_zyc; exact dk N147.den
end Go.Ab

namespace Go.Ab
open Go Go.Proofs
theorem zyc_facts (x : Sector) (n : Int) (h0 : -1 ≤ n) (h1 : n ≤ 1048576) (hx : bwSector x) : -1 ≤ zyc x n ∧ zyc x n ≤ n ∧ (¬ zyc x n < 0 → smSector x) := by
 have b0 := hx
 unfold zyc
 have b0' : x.Color.length < 9223372036854775808 := b0
 rw [show IntKind.wrap .i64 (n - (x.Color.length : Int)) = n - (x.Color.length : Int) from by rw [IntKind.wrap_i64]; omega]
 by_cases c0 : n - (x.Color.length : Int) < 0
 ·rw [decide_eq_true c0]; exact ⟨by simp, by simpa using h0, fun h => absurd (by simp) h⟩
 rw [decide_eq_false c0]
 simp only [cond_false]
 exact ⟨by omega, by omega, fun _ => (show x.Color.length ≤ 1048576 by omega)⟩
end Go.Ab

namespace Go.Ab
open Go Go.Proofs
def znb_b1 (a0 : (List Sector)) (a1 : Int) (i1 : Nat) (s1 : Int) : Except (Int) (Int) :=
 (bif decide ((zyc (a0.getD i1 default) s1) < 0) then .error (-1) else .ok (zyc (a0.getD i1 default) s1))
def znb (a0 : (List Sector)) (a1 : Int) : Int :=
 (bif decide ((IntKind.wrap .i64 (a1 - (a0.length : Int))) < 0) then (-1) else (match loopR (znb_b1 a0 a1) (a0.length - 0) 0 (IntKind.wrap .i64 (a1 - (a0.length : Int))) with | .error e => e | .ok s1 => s1))
namespace N86
theorem DD : DOk Tryz.prog (Go.Ab.DD [(147, dP D_zyc)]) := DD_cons D_zyc_ok.e <| DD_nil _
theorem dn : type_of% (@D_zyc.eq_1) := by and_intros <;> intros <;> rfl
theorem den (a0 : (List Sector)) (a1 : Int)  : Den Tryz.prog 86 [encL 3 eSector a0, .int .i64 a1] (.int .i64 (znb a0 a1)) := by
 generalize hR : znb a0 a1 = r
 unfold znb at hR
 refine di Tryz.func86 Tryz.ntmps86 Tryz.results86 ?_
 intro c hL hc hk
 obtain ⟨hL0, hL1, _⟩ := hL
 have hw0 : a0.length < 9223372036854775808 := Nat.lt_succ_of_le (lens_encL hL0).1
 have hw1 : ∀ v ∈ a0, bwSector v := fun v hv => Sector_lens v ((lens_encL hL0).2 v hv)
 clear hL0 hL1
 simp only [pars, Nat.zero_add]
 iterate 3 refine rS ?_
 refine AWP.cond rfl (fun hb => ?_) (fun hb => ?_)
 ·replace hR := ct hR
  refine rS ?_
  refine AWP.ret ?_
  subst hR
  exact es
 ·replace hR := cf hR
  refine rS ?_
  refine AWP.block ?_
  generalize hz1 : loopR (znb_b1 a0 a1) (a0.length - 0) 0 (IntKind.wrap .i64 (a1 - (a0.length : Int))) = z1 at hR
  refine AWP.range (znb_b1 a0 a1) (fun i1 s1 => ⟨[(0, encL 3 eSector a0), (1, .int .i64 s1), (5, .int .i64 (i1 : Int))], []⟩) (fun i1 s1 => True) (a0.length) 0 (IntKind.wrap .i64 (a1 - (a0.length : Int))) [] hz1 ot wt sm ?_
  clear hz1
  intro i1 s1 hi1 hW1 hz1
  refine rS ?_
  refine AWP.cond rfl (fun hb => ?_) (fun hb => ?_)
  ·have hlt1 : i1 < a0.length := ot
   rw [loopR_lt hlt1] at hz1; simp only [znb_b1] at hz1
   iterate 2 refine rS ?_
   refine AWP.cond rfl (fun hb => ?_) (fun hb => ?_)
   ·simp only [hb, cond_true] at hz1
    refine rS ?_
    refine AWP.ret ?_
    subst hz1
    dsimp only at hR
    subst hR
    exact es
   ·simp only [hb, cond_false] at hz1
    refine rS ?_
    exact ⟨_, [], hlt1, wt, hz1, sm⟩
  ·obtain rfl : i1 = a0.length := ot
   rw [loopR_ge (Nat.le_refl _)] at hz1; subst hz1; dsimp only at hR
   refine AWP.exit ?_; refine exitTo_here ?_
   refine rS ?_
   refine AWP.ret ?_
   subst hR
   exact es
end N86
def D_znb : DF
 | [x0, x1] => some (.int .i64 (znb (rdL dSector x0) (rdI x1)), false, [wL 3 eSector dSector x0, wI .i64 x1])
 | _ => none
theorem D_znb_ok : OkD Tryz.prog 86 D_znb := by unfold D_znb; exact dk N86.den
end Go.Ab

namespace Go.Ab
open Go Go.Proofs
theorem zub_facts (x : Mark) (n : Int) (h0 : -1 ≤ n) (h1 : n ≤ 1048576) (hx : bwMark x) : -1 ≤ zub x n ∧ zub x n ≤ n ∧ (¬ zub x n < 0 → smMark x) := by
 obtain ⟨b0, b1, b2⟩ := hx
 unfold zub
 have b0' : x.Colors.length < 9223372036854775808 := b0
 rw [show IntKind.wrap .i64 (n - (x.Colors.length : Int)) = n - (x.Colors.length : Int) from by rw [IntKind.wrap_i64]; omega]
 by_cases c0 : n - (x.Colors.length : Int) < 0
 ·rw [decide_eq_true c0]; exact ⟨by simp, by simpa using h0, fun h => absurd (by simp) h⟩
 rw [decide_eq_false c0]
 simp only [cond_false]
 have b1' : x.Shape.length < 9223372036854775808 := b1
 rw [show IntKind.wrap .i64 (n - (x.Colors.length : Int) - (x.Shape.length : Int)) = n - (x.Colors.length : Int) - (x.Shape.length : Int) from by rw [IntKind.wrap_i64]; omega]
 by_cases c1 : n - (x.Colors.length : Int) - (x.Shape.length : Int) < 0
 ·rw [decide_eq_true c1]; exact ⟨by simp, by simpa using h0, fun h => absurd (by simp) h⟩
 rw [decide_eq_false c1]
 simp only [cond_false]
 have b2' : x.Topmark.length < 9223372036854775808 := b2
 rw [show IntKind.wrap .i64 (n - (x.Colors.length : Int) - (x.Shape.length : Int) - (x.Topmark.length : Int)) = n - (x.Colors.length : Int) - (x.Shape.length : Int) - (x.Topmark.length : Int) from by rw [IntKind.wrap_i64]; omega]
 by_cases c2 : n - (x.Colors.length : Int) - (x.Shape.length : Int) - (x.Topmark.length : Int) < 0
 ·rw [decide_eq_true c2]; exact ⟨by simp, by simpa using h0, fun h => absurd (by simp) h⟩
 rw [decide_eq_false c2]
 simp only [cond_false]
 exact ⟨by omega, by omega, fun _ => ⟨by omega, by omega, by omega⟩⟩
end Go.Ab

namespace Go.Ab
open Go Go.Proofs
theorem zkc_facts (x : Character) (n : Int) (h0 : -1 ≤ n) (h1 : n ≤ 1048576) (hx : bwCharacter x) : -1 ≤ zkc x n ∧ zkc x n ≤ n ∧ (¬ zkc x n < 0 → smCharacter x) := by
 obtain ⟨b0, b1, b2⟩ := hx
 unfold zkc
 have f0 := zmb_facts x.Group (n) (by omega) (by omega) b0
 by_cases c0 : zmb x.Group (n) < 0
 ·rw [decide_eq_true c0]; exact ⟨by simp, by simpa using h0, fun h => absurd (by simp) h⟩
 rw [decide_eq_false c0]
 simp only [cond_false]
 have b1' : x.Letter.length < 9223372036854775808 := b1
 rw [show IntKind.wrap .i64 (zmb x.Group (n) - (x.Letter.length : Int)) = zmb x.Group (n) - (x.Letter.length : Int) from by rw [IntKind.wrap_i64]; omega]
 by_cases c1 : zmb x.Group (n) - (x.Letter.length : Int) < 0
 ·rw [decide_eq_true c1]; exact ⟨by simp, by simpa using h0, fun h => absurd (by simp) h⟩
 rw [decide_eq_false c1]
 simp only [cond_false]
 have b2' : x.Colors.length < 9223372036854775808 := b2
 rw [show IntKind.wrap .i64 (zmb x.Group (n) - (x.Letter.length : Int) - (x.Colors.length : Int)) = zmb x.Group (n) - (x.Letter.length : Int) - (x.Colors.length : Int) from by rw [IntKind.wrap_i64]; omega]
 by_cases c2 : zmb x.Group (n) - (x.Letter.length : Int) - (x.Colors.length : Int) < 0
 ·rw [decide_eq_true c2]; exact ⟨by simp, by simpa using h0, fun h => absurd (by simp) h⟩
 rw [decide_eq_false c2]
 simp only [cond_false]
 exact ⟨by omega, by omega, fun _ => ⟨f0.2.2 c0, by omega, by omega⟩⟩
end Go.Ab

namespace Go.Ab
open Go Go.Proofs
theorem znb_facts (a : List Sector) (n : Int) (h0 : -1 ≤ n) (h1 : n ≤ 1048576) (hl : a.length < 9223372036854775808) (hx : ∀ v ∈ a, bwSector v) :
  -1 ≤ znb a n ∧ znb a n ≤ n ∧ (¬ znb a n < 0 → a.length ≤ 1048576 ∧ ∀ v ∈ a, smSector v) := by
 unfold znb
 rw [show IntKind.wrap .i64 (n - (a.length : Int)) = n - a.length from by rw [IntKind.wrap_i64]; omega]
 by_cases c : n - (a.length : Int) < 0
 ·rw [decide_eq_true c]; exact ⟨by simp, by simpa using h0, fun h => absurd (by simp) h⟩
 ·rw [decide_eq_false c]
  simp only [cond_false]
  split
  ·rename_i e h
   obtain ⟨j, t, _, _, h3⟩ := loopR_error h
   simp only [znb_b1] at h3
   have : e = -1 := by
    cases hq : decide (zyc (a.getD j default) t < 0) with
    | true => rw [hq] at h3; simpa using h3.symm
    | false => rw [hq] at h3; simp at h3
   omega
  ·rename_i s h
   have := loopR_inv (b := znb_b1 a n) (fun i s => -1 ≤ s ∧ s ≤ n - a.length ∧ ∀ j, j < i → smSector (a.getD j default)) ⟨by omega, by omega, by intro j hj; omega⟩ (by
    intro j u v h1 h2 ⟨h3, h4, h5⟩ h6
    simp only [znb_b1] at h6
    have hb : bwSector (a.getD j default) := bd_getD hx (by decide) j
    have hf := zyc_facts (a.getD j default) u h3 (by omega) hb
    cases hq : decide (zyc (a.getD j default) u < 0) with
    | true => rw [hq] at h6; simp at h6
    | false =>
     rw [hq] at h6
     simp only [cond_false, Except.ok.injEq] at h6
     subst h6
     refine ⟨by omega, by omega, fun q hq2 => ?_⟩
     by_cases hqj : q = j
     ·subst hqj; exact hf.2.2 (of_decide_eq_false hq)
     ·exact h5 q (by omega)) h
   refine ⟨by omega, by omega, fun _ => ⟨by omega, fun v hv => ?_⟩⟩
   obtain ⟨i, hi, rfl⟩ := List.getElem_of_mem hv
   have := this.2.2 i (by omega)
   simpa [List.getD_eq_getElem?_getD, hi] using this
end Go.Ab

namespace Go.Ab
open Go Go.Proofs
def zbb (a0 : Aid) (a1 : Int) : Int :=
 (bif decide ((IntKind.wrap .i64 (a1 - (a0.Name.length : Int))) < 0) then (-1) else (bif decide ((zub a0.Mark (IntKind.wrap .i64 (a1 - (a0.Name.length : Int)))) < 0) then (-1) else (bif decide ((zkc a0.Light (zub a0.Mark (IntKind.wrap .i64 (a1 - (a0.Name.length : Int))))) < 0) then (-1) else (bif decide ((znb a0.Sectors (zkc a0.Light (zub a0.Mark (IntKind.wrap .i64 (a1 - (a0.Name.length : Int)))))) < 0) then (-1) else (znb a0.Sectors (zkc a0.Light (zub a0.Mark (IntKind.wrap .i64 (a1 - (a0.Name.length : Int))))))))))
namespace N31
theorem DD : DOk Tryz.prog (Go.Ab.DD [(84, dP D_zub), (85, dP D_zkc), (86, dP D_znb)]) := DD_cons D_zub_ok.e <| DD_cons D_zkc_ok.e <| DD_cons D_znb_ok.e <| DD_nil _
theorem dn : type_of% (And.intro @D_zub.eq_1 <| And.intro @D_zkc.eq_1 <| @D_znb.eq_1) := by and_intros <;> intros <;> rfl
theorem den (a0 : Aid) (a1 : Int)  : Den Tryz.prog 31 [.agg (eAid a0), .int .i64 a1] (.int .i64 (zbb a0 a1)) := by
 generalize hR : zbb a0 a1 = r
 unfold zbb at hR
 refine di Tryz.func31 Tryz.ntmps31 Tryz.results31 ?_
 intro c hL hc hk
 obtain ⟨hL0, hL1, _⟩ := hL
 have hw0 : bwAid a0 := Aid_lens a0 hL0
 clear hL0 hL1
 simp only [pars, Nat.zero_add]
 iterate 3 refine rS ?_
 refine AWP.cond rfl (fun hb => ?_) (fun hb => ?_)
 ·replace hR := ct hR
  refine rS ?_
  refine AWP.ret ?_
  subst hR
  exact es
 ·replace hR := cf hR
  iterate 2 refine rS ?_
  refine AWP.cond rfl (fun hb => ?_) (fun hb => ?_)
  ·replace hR := ct hR
   refine rS ?_
   refine AWP.ret ?_
   subst hR
   exact es
  ·replace hR := cf hR
   iterate 2 refine rS ?_
   refine AWP.cond rfl (fun hb => ?_) (fun hb => ?_)
   ·replace hR := ct hR
    refine rS ?_
    refine AWP.ret ?_
    subst hR
    exact es
   ·replace hR := cf hR
    iterate 2 refine rS ?_
    refine AWP.cond rfl (fun hb => ?_) (fun hb => ?_)
    ·replace hR := ct hR
     refine rS ?_
     refine AWP.ret ?_
     subst hR
     exact es
    ·replace hR := cf hR
     refine rS ?_
     refine AWP.ret ?_
     subst hR
     exact es
end N31
def D_zbb : DF
 | [x0, x1] => some (.int .i64 (zbb (rdG dAid x0) (rdI x1)), false, [wG eAid dAid x0, wI .i64 x1])
 | _ => none
theorem D_zbb_ok : OkD Tryz.prog 31 D_zbb := by unfold D_zbb; exact dk N31.den
end Go.Ab

namespace Go.Ab
open Go Go.Proofs
theorem zbb_facts (x : Aid) (n : Int) (h0 : -1 ≤ n) (h1 : n ≤ 1048576) (hx : bwAid x) : -1 ≤ zbb x n ∧ zbb x n ≤ n ∧ (¬ zbb x n < 0 → smAid x) := by
 obtain ⟨b0, b1, b2, b3⟩ := hx
 unfold zbb
 have b0' : x.Name.length < 9223372036854775808 := b0
 rw [show IntKind.wrap .i64 (n - (x.Name.length : Int)) = n - (x.Name.length : Int) from by rw [IntKind.wrap_i64]; omega]
 by_cases c0 : n - (x.Name.length : Int) < 0
 ·rw [decide_eq_true c0]; exact ⟨by simp, by simpa using h0, fun h => absurd (by simp) h⟩
 rw [decide_eq_false c0]
 simp only [cond_false]
 have f1 := zub_facts x.Mark (n - (x.Name.length : Int)) (by omega) (by omega) b1
 by_cases c1 : zub x.Mark (n - (x.Name.length : Int)) < 0
 ·rw [decide_eq_true c1]; exact ⟨by simp, by simpa using h0, fun h => absurd (by simp) h⟩
 rw [decide_eq_false c1]
 simp only [cond_false]
 have f2 := zkc_facts x.Light (zub x.Mark (n - (x.Name.length : Int))) (by omega) (by omega) b2
 by_cases c2 : zkc x.Light (zub x.Mark (n - (x.Name.length : Int))) < 0
 ·rw [decide_eq_true c2]; exact ⟨by simp, by simpa using h0, fun h => absurd (by simp) h⟩
 rw [decide_eq_false c2]
 simp only [cond_false]
 have f3 := znb_facts x.Sectors (zkc x.Light (zub x.Mark (n - (x.Name.length : Int)))) (by omega) (by omega) b3.1 b3.2
 by_cases c3 : znb x.Sectors (zkc x.Light (zub x.Mark (n - (x.Name.length : Int)))) < 0
 ·rw [decide_eq_true c3]; exact ⟨by simp, by simpa using h0, fun h => absurd (by simp) h⟩
 rw [decide_eq_false c3]
 simp only [cond_false]
 exact ⟨by omega, by omega, fun _ => ⟨by omega, f1.2.2 c1, f2.2.2 c2, f3.2.2 c3⟩⟩
end Go.Ab

namespace Go.Ab
open Go Go.Proofs
def zg_b1 (a0 : (List Aid)) (a1 : Int) (i1 : Nat) (s1 : Int) : Except (Int) (Int) :=
 (bif decide ((zbb (a0.getD i1 default) s1) < 0) then .error (-1) else .ok (zbb (a0.getD i1 default) s1))
def zg (a0 : (List Aid)) (a1 : Int) : Int :=
 (bif decide ((IntKind.wrap .i64 (a1 - (a0.length : Int))) < 0) then (-1) else (match loopR (zg_b1 a0 a1) (a0.length - 0) 0 (IntKind.wrap .i64 (a1 - (a0.length : Int))) with | .error e => e | .ok s1 => s1))
namespace N22
theorem DD : DOk Tryz.prog (Go.Ab.DD [(31, dP D_zbb)]) := DD_cons D_zbb_ok.e <| DD_nil _
theorem dn : type_of% (@D_zbb.eq_1) := by and_intros <;> intros <;> rfl
theorem den (a0 : (List Aid)) (a1 : Int)  : Den Tryz.prog 22 [encL 16 eAid a0, .int .i64 a1] (.int .i64 (zg a0 a1)) := by
 generalize hR : zg a0 a1 = r
 unfold zg at hR
 refine di Tryz.func22 Tryz.ntmps22 Tryz.results22 ?_
 intro c hL hc hk
 obtain ⟨hL0, hL1, _⟩ := hL
 have hw0 : a0.length < 9223372036854775808 := Nat.lt_succ_of_le (lens_encL hL0).1
 have hw1 : ∀ v ∈ a0, bwAid v := fun v hv => Aid_lens v ((lens_encL hL0).2 v hv)
 clear hL0 hL1
 simp only [pars, Nat.zero_add]
 iterate 3 refine rS ?_
 refine AWP.cond rfl (fun hb => ?_) (fun hb => ?_)
 ·replace hR := ct hR
  refine rS ?_
  refine AWP.ret ?_
  subst hR
  exact es
 ·replace hR := cf hR
  refine rS ?_
  refine AWP.block ?_
  generalize hz1 : loopR (zg_b1 a0 a1) (a0.length - 0) 0 (IntKind.wrap .i64 (a1 - (a0.length : Int))) = z1 at hR
  refine AWP.range (zg_b1 a0 a1) (fun i1 s1 => ⟨[(0, encL 16 eAid a0), (1, .int .i64 s1), (5, .int .i64 (i1 : Int))], []⟩) (fun i1 s1 => True) (a0.length) 0 (IntKind.wrap .i64 (a1 - (a0.length : Int))) [] hz1 ot wt sm ?_
  clear hz1
  intro i1 s1 hi1 hW1 hz1
  refine rS ?_
  refine AWP.cond rfl (fun hb => ?_) (fun hb => ?_)
  ·have hlt1 : i1 < a0.length := ot
   rw [loopR_lt hlt1] at hz1; simp only [zg_b1] at hz1
   iterate 2 refine rS ?_
   refine AWP.cond rfl (fun hb => ?_) (fun hb => ?_)
   ·simp only [hb, cond_true] at hz1
    refine rS ?_
    refine AWP.ret ?_
    subst hz1
    dsimp only at hR
    subst hR
    exact es
   ·simp only [hb, cond_false] at hz1
    refine rS ?_
    exact ⟨_, [], hlt1, wt, hz1, sm⟩
  ·obtain rfl : i1 = a0.length := ot
   rw [loopR_ge (Nat.le_refl _)] at hz1; subst hz1; dsimp only at hR
   refine AWP.exit ?_; refine exitTo_here ?_
   refine rS ?_
   refine AWP.ret ?_
   subst hR
   exact es
end N22
def D_zg : DF
 | [x0, x1] => some (.int .i64 (zg (rdL dAid x0) (rdI x1)), false, [wL 16 eAid dAid x0, wI .i64 x1])
 | _ => none
theorem D_zg_ok : OkD Tryz.prog 22 D_zg := by unfold D_zg; exact dk N22.den
end Go.Ab

namespace Go.Ab
open Go Go.Proofs
theorem zg_facts (a : List Aid) (n : Int) (h0 : -1 ≤ n) (h1 : n ≤ 1048576) (hl : a.length < 9223372036854775808) (hx : ∀ v ∈ a, bwAid v) :
  -1 ≤ zg a n ∧ zg a n ≤ n ∧ (¬ zg a n < 0 → a.length ≤ 1048576 ∧ ∀ v ∈ a, smAid v) := by
 unfold zg
 rw [show IntKind.wrap .i64 (n - (a.length : Int)) = n - a.length from by rw [IntKind.wrap_i64]; omega]
 by_cases c : n - (a.length : Int) < 0
 ·rw [decide_eq_true c]; exact ⟨by simp, by simpa using h0, fun h => absurd (by simp) h⟩
 ·rw [decide_eq_false c]
  simp only [cond_false]
  split
  ·rename_i e h
   obtain ⟨j, t, _, _, h3⟩ := loopR_error h
   simp only [zg_b1] at h3
   have : e = -1 := by
    cases hq : decide (zbb (a.getD j default) t < 0) with
    | true => rw [hq] at h3; simpa using h3.symm
    | false => rw [hq] at h3; simp at h3
   omega
  ·rename_i s h
   have := loopR_inv (b := zg_b1 a n) (fun i s => -1 ≤ s ∧ s ≤ n - a.length ∧ ∀ j, j < i → smAid (a.getD j default)) ⟨by omega, by omega, by intro j hj; omega⟩ (by
    intro j u v h1 h2 ⟨h3, h4, h5⟩ h6
    simp only [zg_b1] at h6
    have hb : bwAid (a.getD j default) := bd_getD hx (by decide) j
    have hf := zbb_facts (a.getD j default) u h3 (by omega) hb
    cases hq : decide (zbb (a.getD j default) u < 0) with
    | true => rw [hq] at h6; simp at h6
    | false =>
     rw [hq] at h6
     simp only [cond_false, Except.ok.injEq] at h6
     subst h6
     refine ⟨by omega, by omega, fun q hq2 => ?_⟩
     by_cases hqj : q = j
     ·subst hqj; exact hf.2.2 (of_decide_eq_false hq)
     ·exact h5 q (by omega)) h
   refine ⟨by omega, by omega, fun _ => ⟨by omega, fun v hv => ?_⟩⟩
   obtain ⟨i, hi, rfl⟩ := List.getElem_of_mem hv
   have := this.2.2 i (by omega)
   simpa [List.getD_eq_getElem?_getD, hi] using this
end Go.Ab

namespace Go.Ab
open Go Go.Proofs
theorem markAidS_le (a : List Aid) (k : Int) (h : k ≤ 9223372036854775807) : (zq a k).1 ≤ 9223372036854775807 := by
 unfold zq
 obtain ⟨t, h1, h2⟩ := loopR_total (b := zq_b1 a k) (fun _ s => s.1 ≤ 9223372036854775807) (k := a.length - 0) (i := 0) (s := (k, a)) h (by
  intro j u _ _ h
  exact ⟨_, rfl, wrap_le _⟩)
 rw [h1]
 exact h2
theorem markAidS_len (a : List Aid) (k : Int) : (zq a k).2.length = a.length := by
 unfold zq
 obtain ⟨t, h1, h2⟩ := loopR_total (b := zq_b1 a k) (fun _ s => s.2.length = a.length) (k := a.length - 0) (i := 0) (s := (k, a)) rfl (by
  intro j u _ _ h
  exact ⟨_, rfl, by simpa using h⟩)
 rw [h1]
 exact h2
theorem markAidS_sub (a : List Aid) (k : Int) : subL (zq a k).2 0 a.length = (zq a k).2 := by
 rw [← markAidS_len a k]; exact subL_all _
end Go.Ab
