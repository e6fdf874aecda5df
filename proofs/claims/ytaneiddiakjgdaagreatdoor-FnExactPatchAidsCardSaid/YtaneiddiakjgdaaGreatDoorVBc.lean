/- A part of a proof: walks of functions and lemmas of our own. No conditions. -/
import Derived.Test.YtaneiddiakjgdaaGreatDoorVAl
import Derived.Test.YtaneiddiakjgdaaGreatDoorVBb
import Derived.Test.YtaneiddiakjgdaaGreatDoorVAi
import Derived.Test.YtaneiddiakjgdaaGreatDoorVAo
import Derived.Test.YtaneiddiakjgdaaGreatDoorVAp
set_option linter.unusedSectionVars false
set_option linter.unusedVariables false
set_option linter.unusedSimpArgs false
set_option maxHeartbeats 1000000
namespace Go.Ab
open Go Go.Proofs
def zld_b1 (a0 : (List Sector)) (a1 : (List Sector)) (i1 : Nat) (s1 : Unit) : Except (Bool) (Unit) :=
 (bif (!(zpf (a0.getD i1 default) (a1.getD i1 default))) then .error false else .ok ())
def zld (a0 : (List Sector)) (a1 : (List Sector)) : Bool :=
 (bif ((a0.length : Int) != (a1.length : Int)) then false else (match loopR (zld_b1 a0 a1) (a0.length - 0) 0 () with | .error e => e | .ok s1 => true))
namespace N100
theorem DD : DOk Tryz.prog (Go.Ab.DD [(167, dP D_zpf)]) := DD_cons D_zpf_ok.e <| DD_nil _
theorem dn : type_of% (@D_zpf.eq_1) := by and_intros <;> intros <;> rfl
theorem den (a0 : (List Sector)) (a1 : (List Sector))  : Den Tryz.prog 100 [encL 3 eSector a0, encL 3 eSector a1] (.bool (zld a0 a1)) := by
 generalize hR : zld a0 a1 = r
 unfold zld at hR
 refine di Tryz.func100 Tryz.ntmps100 Tryz.results100 ?_
 intro c hL hc hk
 obtain ⟨hL0, hL1, _⟩ := hL
 have hw0 : a0.length < 9223372036854775808 := Nat.lt_succ_of_le (lens_encL hL0).1
 have hw1 : ∀ v ∈ a0, bwSector v := fun v hv => Sector_lens v ((lens_encL hL0).2 v hv)
 have hw2 : a1.length < 9223372036854775808 := Nat.lt_succ_of_le (lens_encL hL1).1
 have hw3 : ∀ v ∈ a1, bwSector v := fun v hv => Sector_lens v ((lens_encL hL1).2 v hv)
 clear hL0 hL1
 simp only [pars, Nat.zero_add]
 iterate 2 refine rS ?_
 refine AWP.cond rfl (fun hb => ?_) (fun hb => ?_)
 ·replace hR := ct hR
  refine rS ?_
  refine AWP.ret ?_
  subst hR
  exact es
 ·replace hR := cf hR
  refine rS ?_
  refine AWP.block ?_
  generalize hz1 : loopR (zld_b1 a0 a1) (a0.length - 0) 0 () = z1 at hR
  refine AWP.range (zld_b1 a0 a1) (fun i1 s1 => ⟨[(0, encL 3 eSector a0), (1, encL 3 eSector a1), (5, .int .i64 (i1 : Int))], []⟩) (fun i1 s1 => True) (a0.length) 0 () [] hz1 ot wt sm ?_
  clear hz1
  intro i1 s1 hi1 hW1 hz1
  refine rS ?_
  refine AWP.cond rfl (fun hb => ?_) (fun hb => ?_)
  ·have hlt1 : i1 < a0.length := ot
   rw [loopR_lt hlt1] at hz1; simp only [zld_b1] at hz1
   refine rD 8 ?_
   refine AWP.cond rfl (fun hb => ?_) (fun hb => ?_)
   ·simp only [hb, cond_true] at hz1
    refine rS ?_
    refine AWP.ret ?_
    subst hz1
    dsimp only at hR
    subst hR
    exact es
   ·simp only [hb, cond_false] at hz1
    refine rS ?_
    exact ⟨_, [], hlt1, wt, hz1, sm⟩
  ·obtain rfl : i1 = a0.length := ot
   rw [loopR_ge (Nat.le_refl _)] at hz1; subst hz1; dsimp only at hR
   refine AWP.exit ?_; refine exitTo_here ?_
   refine rS ?_
   refine AWP.ret ?_
   subst hR
   exact es
end N100
def D_zld : DF
 | [x0, x1] => some (.bool (zld (rdL dSector x0) (rdL dSector x1)), false, [wL 3 eSector dSector x0, wL 3 eSector dSector x1])
 | _ => none
theorem D_zld_ok : OkD Tryz.prog 100 D_zld := by unfold D_zld; exact dk N100.den
end Go.Ab

namespace Go.Ab
open Go Go.Proofs
def zqf (a0 : Point) (a1 : Point) : Bool :=
 (bif (a0.X != a1.X) then false else (bif (a0.Y != a1.Y) then false else true))
namespace N97
theorem DD : DOk Tryz.prog (Go.Ab.DD []) := DD_nil _
theorem den (a0 : Point) (a1 : Point)  : Den Tryz.prog 97 [.agg (ePoint a0), .agg (ePoint a1)] (.bool (zqf a0 a1)) := by
 generalize hR : zqf a0 a1 = r
 unfold zqf at hR
 refine di Tryz.func97 Tryz.ntmps97 Tryz.results97 ?_
 intro c hL hc hk
 clear hL
 simp only [pars, Nat.zero_add]
 iterate 2 refine rS ?_
 refine AWP.cond rfl (fun hb => ?_) (fun hb => ?_)
 ·replace hR := ct hR
  refine rS ?_
  refine AWP.ret ?_
  subst hR
  exact es
 ·replace hR := cf hR
  refine rS ?_
  refine AWP.cond rfl (fun hb => ?_) (fun hb => ?_)
  ·replace hR := ct hR
   refine rS ?_
   refine AWP.ret ?_
   subst hR
   exact es
  ·replace hR := cf hR
   refine rS ?_
   refine AWP.ret ?_
   subst hR
   exact es
end N97
def D_zqf : DF
 | [x0, x1] => some (.bool (zqf (rdG dPoint x0) (rdG dPoint x1)), false, [wG ePoint dPoint x0, wG ePoint dPoint x1])
 | _ => none
theorem D_zqf_ok : OkD Tryz.prog 97 D_zqf := by unfold D_zqf; exact dk N97.den
end Go.Ab

namespace Go.Ab
open Go Go.Proofs
def zrf (a0 : Mark) (a1 : Mark) : Bool :=
 (bif (a0.Kind != a1.Kind) then false else (bif (a0.Colors != a1.Colors) then false else (bif (a0.Shape != a1.Shape) then false else (bif (a0.Topmark != a1.Topmark) then false else true))))
namespace N98
theorem DD : DOk Tryz.prog (Go.Ab.DD []) := DD_nil _
theorem den (a0 : Mark) (a1 : Mark)  : Den Tryz.prog 98 [.agg (eMark a0), .agg (eMark a1)] (.bool (zrf a0 a1)) := by
 generalize hR : zrf a0 a1 = r
 unfold zrf at hR
 refine di Tryz.func98 Tryz.ntmps98 Tryz.results98 ?_
 intro c hL hc hk
 obtain ⟨hL0, hL1, _⟩ := hL
 have hw0 : bwMark a0 := Mark_lens a0 hL0
 have hw1 : bwMark a1 := Mark_lens a1 hL1
 clear hL0 hL1
 simp only [pars, Nat.zero_add]
 iterate 2 refine rS ?_
 refine AWP.cond rfl (fun hb => ?_) (fun hb => ?_)
 ·replace hR := ct hR
  refine rS ?_
  refine AWP.ret ?_
  subst hR
  exact es
 ·replace hR := cf hR
  refine rS ?_
  refine AWP.cond rfl (fun hb => ?_) (fun hb => ?_)
  ·replace hR := ct hR
   refine rS ?_
   refine AWP.ret ?_
   subst hR
   exact es
  ·replace hR := cf hR
   refine rS ?_
   refine AWP.cond rfl (fun hb => ?_) (fun hb => ?_)
   ·replace hR := ct hR
    refine rS ?_
    refine AWP.ret ?_
    subst hR
    exact es
   ·replace hR := cf hR
    refine rS ?_
    refine AWP.cond rfl (fun hb => ?_) (fun hb => ?_)
    ·replace hR := ct hR
     refine rS ?_
     refine AWP.ret ?_
     subst hR
     exact es
    ·replace hR := cf hR
     refine rS ?_
     refine AWP.ret ?_
     subst hR
     exact es
end N98
def D_zrf : DF
 | [x0, x1] => some (.bool (zrf (rdG dMark x0) (rdG dMark x1)), false, [wG eMark dMark x0, wG eMark dMark x1])
 | _ => none
theorem D_zrf_ok : OkD Tryz.prog 98 D_zrf := by unfold D_zrf; exact dk N98.den
end Go.Ab

namespace Go.Ab
open Go Go.Proofs
def zwb_b1 (a0 : (List Int)) (a1 : (List Int)) (i1 : Nat) (s1 : Unit) : Except (Bool) (Unit) :=
 (bif ((a0.getD i1 default) != (a1.getD i1 default)) then .error false else .ok ())
def zwb (a0 : (List Int)) (a1 : (List Int)) : Bool :=
 (bif ((a0.length : Int) != (a1.length : Int)) then false else (match loopR (zwb_b1 a0 a1) (a0.length - 0) 0 () with | .error e => e | .ok s1 => true))
namespace N17
theorem DD : DOk Tryz.prog (Go.Ab.DD []) := DD_nil _
theorem den (a0 : (List Int)) (a1 : (List Int))  : Den Tryz.prog 17 [encL 1 eIi64 a0, encL 1 eIi64 a1] (.bool (zwb a0 a1)) := by
 generalize hR : zwb a0 a1 = r
 unfold zwb at hR
 refine di Tryz.func17 Tryz.ntmps17 Tryz.results17 ?_
 intro c hL hc hk
 obtain ⟨hL0, hL1, _⟩ := hL
 have hw0 : a0.length < 9223372036854775808 := Nat.lt_succ_of_le (lens_encL hL0).1
 have hw1 : a1.length < 9223372036854775808 := Nat.lt_succ_of_le (lens_encL hL1).1
 clear hL0 hL1
 simp only [pars, Nat.zero_add]
 iterate 2 refine rS ?_
 refine AWP.cond rfl (fun hb => ?_) (fun hb => ?_)
 ·replace hR := ct hR
  refine rS ?_
  refine AWP.ret ?_
  subst hR
  exact es
 ·replace hR := cf hR
  refine rS ?_
  refine AWP.block ?_
  generalize hz1 : loopR (zwb_b1 a0 a1) (a0.length - 0) 0 () = z1 at hR
  refine AWP.range (zwb_b1 a0 a1) (fun i1 s1 => ⟨[(0, encL 1 eIi64 a0), (1, encL 1 eIi64 a1), (5, .int .i64 (i1 : Int))], []⟩) (fun i1 s1 => True) (a0.length) 0 () [] hz1 ot wt sm ?_
  clear hz1
  intro i1 s1 hi1 hW1 hz1
  refine rS ?_
  refine AWP.cond rfl (fun hb => ?_) (fun hb => ?_)
  ·have hlt1 : i1 < a0.length := ot
   rw [loopR_lt hlt1] at hz1; simp only [zwb_b1] at hz1
   refine rD 8 ?_
   refine AWP.cond rfl (fun hb => ?_) (fun hb => ?_)
   ·simp only [hb, cond_true] at hz1
    refine rS ?_
    refine AWP.ret ?_
    subst hz1
    dsimp only at hR
    subst hR
    exact es
   ·simp only [hb, cond_false] at hz1
    refine rS ?_
    exact ⟨_, [], hlt1, wt, hz1, sm⟩
  ·obtain rfl : i1 = a0.length := ot
   rw [loopR_ge (Nat.le_refl _)] at hz1; subst hz1; dsimp only at hR
   refine AWP.exit ?_; refine exitTo_here ?_
   refine rS ?_
   refine AWP.ret ?_
   subst hR
   exact es
end N17
def D_zwb : DF
 | [x0, x1] => some (.bool (zwb (rdL dIi64 x0) (rdL dIi64 x1)), false, [wL 1 eIi64 dIi64 x0, wL 1 eIi64 dIi64 x1])
 | _ => none
theorem D_zwb_ok : OkD Tryz.prog 17 D_zwb := by unfold D_zwb; exact dk N17.den
end Go.Ab

namespace Go.Ab
open Go Go.Proofs
def zsf (a0 : Character) (a1 : Character) : Bool :=
 (bif (a0.Kind != a1.Kind) then false else (bif (!(zwb a0.Group a1.Group)) then false else (bif (a0.Letter != a1.Letter) then false else (bif (a0.Colors != a1.Colors) then false else (bif (a0.Period != a1.Period) then false else true)))))
namespace N99
theorem DD : DOk Tryz.prog (Go.Ab.DD [(17, dP D_zwb)]) := DD_cons D_zwb_ok.e <| DD_nil _
theorem dn : type_of% (@D_zwb.eq_1) := by and_intros <;> intros <;> rfl
theorem den (a0 : Character) (a1 : Character)  : Den Tryz.prog 99 [.agg (eCharacter a0), .agg (eCharacter a1)] (.bool (zsf a0 a1)) := by
 generalize hR : zsf a0 a1 = r
 unfold zsf at hR
 refine di Tryz.func99 Tryz.ntmps99 Tryz.results99 ?_
 intro c hL hc hk
 obtain ⟨hL0, hL1, _⟩ := hL
 have hw0 : bwCharacter a0 := Character_lens a0 hL0
 have hw1 : bwCharacter a1 := Character_lens a1 hL1
 clear hL0 hL1
 simp only [pars, Nat.zero_add]
 iterate 2 refine rS ?_
 refine AWP.cond rfl (fun hb => ?_) (fun hb => ?_)
 ·replace hR := ct hR
  refine rS ?_
  refine AWP.ret ?_
  subst hR
  exact es
 ·replace hR := cf hR
  refine rS ?_
  refine AWP.cond rfl (fun hb => ?_) (fun hb => ?_)
  ·replace hR := ct hR
   refine rS ?_
   refine AWP.ret ?_
   subst hR
   exact es
  ·replace hR := cf hR
   refine rS ?_
   refine AWP.cond rfl (fun hb => ?_) (fun hb => ?_)
   ·replace hR := ct hR
    refine rS ?_
    refine AWP.ret ?_
    subst hR
    exact es
   ·replace hR := cf hR
    refine rS ?_
    refine AWP.cond rfl (fun hb => ?_) (fun hb => ?_)
    ·replace hR := ct hR
     refine rS ?_
     refine AWP.ret ?_
     subst hR
     exact es
    ·replace hR := cf hR
     refine rS ?_
     refine AWP.cond rfl (fun hb => ?_) (fun hb => ?_)
     ·replace hR := ct hR
      refine rS ?_
      refine AWP.ret ?_
      subst hR
      exact es
     ·replace hR := cf hR
      refine rS ?_
      refine AWP.ret ?_
      subst hR
      exact es
end N99
def D_zsf : DF
 | [x0, x1] => some (.bool (zsf (rdG dCharacter x0) (rdG dCharacter x1)), false, [wG eCharacter dCharacter x0, wG eCharacter dCharacter x1])
 | _ => none
theorem D_zsf_ok : OkD Tryz.prog 99 D_zsf := by unfold D_zsf; exact dk N99.den
end Go.Ab

namespace Go.Ab
open Go Go.Proofs
def ztc (a0 : Aid) (a1 : Aid) : Bool :=
 (bif (a0.Number != a1.Number) then false else (bif (a0.Name != a1.Name) then false else (bif (!(zqf a0.At a1.At)) then false else (bif (a0.Height != a1.Height) then false else (bif (!(zrf a0.Mark a1.Mark)) then false else (bif (!(zsf a0.Light a1.Light)) then false else (bif (!(zld a0.Sectors a1.Sectors)) then false else (bif (a0.Intensity != a1.Intensity) then false else true))))))))
namespace N35
theorem DD : DOk Tryz.prog (Go.Ab.DD [(100, dP D_zld), (97, dP D_zqf), (98, dP D_zrf), (99, dP D_zsf)]) := DD_cons D_zld_ok.e <| DD_cons D_zqf_ok.e <| DD_cons D_zrf_ok.e <| DD_cons D_zsf_ok.e <| DD_nil _
theorem dn : type_of% (And.intro @D_zld.eq_1 <| And.intro @D_zqf.eq_1 <| And.intro @D_zrf.eq_1 <| @D_zsf.eq_1) := by and_intros <;> intros <;> rfl
theorem den (a0 : Aid) (a1 : Aid)  : Den Tryz.prog 35 [.agg (eAid a0), .agg (eAid a1)] (.bool (ztc a0 a1)) := by
 generalize hR : ztc a0 a1 = r
 unfold ztc at hR
 refine di Tryz.func35 Tryz.ntmps35 Tryz.results35 ?_
 intro c hL hc hk
 obtain ⟨hL0, hL1, _⟩ := hL
 have hw0 : bwAid a0 := Aid_lens a0 hL0
 have hw1 : bwAid a1 := Aid_lens a1 hL1
 clear hL0 hL1
 simp only [pars, Nat.zero_add]
 iterate 2 refine rS ?_
 refine AWP.cond rfl (fun hb => ?_) (fun hb => ?_)
 ·replace hR := ct hR
  refine rS ?_
  refine AWP.ret ?_
  subst hR
  exact es
 ·replace hR := cf hR
  refine rS ?_
  refine AWP.cond rfl (fun hb => ?_) (fun hb => ?_)
  ·replace hR := ct hR
   refine rS ?_
   refine AWP.ret ?_
   subst hR
   exact es
  ·replace hR := cf hR
   refine rS ?_
   refine AWP.cond rfl (fun hb => ?_) (fun hb => ?_)
   ·replace hR := ct hR
    refine rS ?_
    refine AWP.ret ?_
    subst hR
    exact es
   ·replace hR := cf hR
    refine rS ?_
    refine AWP.cond rfl (fun hb => ?_) (fun hb => ?_)
    ·replace hR := ct hR
     refine rS ?_
     refine AWP.ret ?_
     subst hR
     exact es
    ·replace hR := cf hR
     refine rS ?_
     refine AWP.cond rfl (fun hb => ?_) (fun hb => ?_)
     ·replace hR := ct hR
      refine rS ?_
      refine AWP.ret ?_
      subst hR
      exact es
     ·replace hR := cf hR
      refine rS ?_
      refine AWP.cond rfl (fun hb => ?_) (fun hb => ?_)
      ·replace hR := ct hR
       refine rS ?_
       refine AWP.ret ?_
       subst hR
       exact es
      ·replace hR := cf hR
       refine rS ?_
       refine AWP.cond rfl (fun hb => ?_) (fun hb => ?_)
       ·replace hR := ct hR
        refine rS ?_
        refine AWP.ret ?_
        subst hR
        exact es
       ·replace hR := cf hR
        refine rS ?_
        refine AWP.cond rfl (fun hb => ?_) (fun hb => ?_)
        ·replace hR := ct hR
         refine rS ?_
         refine AWP.ret ?_
         subst hR
         exact es
        ·replace hR := cf hR
         refine rS ?_
         refine AWP.ret ?_
         subst hR
         exact es
end N35
def D_ztc : DF
 | [x0, x1] => some (.bool (ztc (rdG dAid x0) (rdG dAid x1)), false, [wG eAid dAid x0, wG eAid dAid x1])
 | _ => none
theorem D_ztc_ok : OkD Tryz.prog 35 D_ztc := by unfold D_ztc; exact dk N35.den
end Go.Ab

namespace Go.Ab
open Go Go.Proofs
theorem zqf_dec (a b : Point) : zqf a b = decide (a = b) := by
 unfold zqf
 skip
 by_cases h : a = b
 ·subst h; simp
 ·rw [decide_eq_false h]
  cases a; cases b
  simp only [Point.mk.injEq] at h
  simp only [bne_iff_ne, Bool.cond_eq_ite, ite_eq_right_iff]
  (repeat' split) <;> simp_all
end Go.Ab

namespace Go.Ab
open Go Go.Proofs
theorem zrf_dec (a b : Mark) : zrf a b = decide (a = b) := by
 unfold zrf
 skip
 by_cases h : a = b
 ·subst h; simp
 ·rw [decide_eq_false h]
  cases a; cases b
  simp only [Mark.mk.injEq] at h
  simp only [bne_iff_ne, Bool.cond_eq_ite, ite_eq_right_iff]
  (repeat' split) <;> simp_all
end Go.Ab

namespace Go.Ab
open Go Go.Proofs
theorem zwb_dec (a b : List Int) : zwb a b = decide (a = b) := by
 unfold zwb
 by_cases hl : a.length = b.length
 ·have h1 : ((a.length : Int) != (b.length : Int)) = false := by simp [hl]
  rw [h1, cond_false, loopR_any (b := zwb_b1 a b) (fun j => !decide (a.getD j default = b.getD j default)) false (fun j u _ _ => by simp only [zwb_b1, ned])]
  simp only [Nat.sub_zero, Nat.zero_add]
  rw [any_ne a b hl]
  by_cases h : a = b <;> simp [h]
 ·have h1 : ((a.length : Int) != (b.length : Int)) = true := by simp; omega
  have h2 : ¬ a = b := fun e => hl (by rw [e])
  rw [h1, cond_true, decide_eq_false h2]
end Go.Ab

namespace Go.Ab
open Go Go.Proofs
theorem zsf_dec (a b : Character) : zsf a b = decide (a = b) := by
 unfold zsf
 simp only [zwb_dec]
 by_cases h : a = b
 ·subst h; simp
 ·rw [decide_eq_false h]
  cases a; cases b
  simp only [Character.mk.injEq] at h
  simp only [bne_iff_ne, Bool.cond_eq_ite, ite_eq_right_iff]
  (repeat' split) <;> simp_all
end Go.Ab

namespace Go.Ab
open Go Go.Proofs
theorem zpf_dec (a b : Sector) : zpf a b = decide (a = b) := by
 unfold zpf
 skip
 by_cases h : a = b
 ·subst h; simp
 ·rw [decide_eq_false h]
  cases a; cases b
  simp only [Sector.mk.injEq] at h
  simp only [bne_iff_ne, Bool.cond_eq_ite, ite_eq_right_iff]
  (repeat' split) <;> simp_all
end Go.Ab

namespace Go.Ab
open Go Go.Proofs
theorem zld_dec (a b : List Sector) : zld a b = decide (a = b) := by
 unfold zld
 by_cases hl : a.length = b.length
 ·have h1 : ((a.length : Int) != (b.length : Int)) = false := by simp [hl]
  rw [h1, cond_false, loopR_any (b := zld_b1 a b) (fun j => !decide (a.getD j default = b.getD j default)) false (fun j u _ _ => by simp only [zld_b1, zpf_dec])]
  simp only [Nat.sub_zero, Nat.zero_add]
  rw [any_ne a b hl]
  by_cases h : a = b <;> simp [h]
 ·have h1 : ((a.length : Int) != (b.length : Int)) = true := by simp; omega
  have h2 : ¬ a = b := fun e => hl (by rw [e])
  rw [h1, cond_true, decide_eq_false h2]
end Go.Ab

namespace Go.Ab
open Go Go.Proofs
theorem ztc_dec (a b : Aid) : ztc a b = decide (a = b) := by
 unfold ztc
 simp only [zqf_dec, zrf_dec, zsf_dec, zld_dec]
 by_cases h : a = b
 ·subst h; simp
 ·rw [decide_eq_false h]
  cases a; cases b
  simp only [Aid.mk.injEq] at h
  simp only [bne_iff_ne, Bool.cond_eq_ite, ite_eq_right_iff]
  (repeat' split) <;> simp_all
end Go.Ab

namespace Go.Ab
open Go Go.Proofs
def zuc (a0 : Mark) (a1 : Int) : Int :=
 (bif decide ((IntKind.wrap .i64 (a1 - (a0.Colors.length : Int))) < 0) then (-1) else (bif decide ((IntKind.wrap .i64 ((IntKind.wrap .i64 (a1 - (a0.Colors.length : Int))) - (a0.Shape.length : Int))) < 0) then (-1) else (bif decide ((IntKind.wrap .i64 ((IntKind.wrap .i64 ((IntKind.wrap .i64 (a1 - (a0.Colors.length : Int))) - (a0.Shape.length : Int))) - (a0.Topmark.length : Int))) < 0) then (-1) else IntKind.wrap .i64 ((IntKind.wrap .i64 ((IntKind.wrap .i64 (a1 - (a0.Colors.length : Int))) - (a0.Shape.length : Int))) - (a0.Topmark.length : Int)))))
namespace N84
theorem DD : DOk Tryz.prog (Go.Ab.DD []) := DD_nil _
theorem den (a0 : Mark) (a1 : Int)  : Den Tryz.prog 84 [.agg (eMark a0), .int .i64 a1] (.int .i64 (zuc a0 a1)) := by
 generalize hR : zuc a0 a1 = r
 unfold zuc at hR
 refine di Tryz.func84 Tryz.ntmps84 Tryz.results84 ?_
 intro c hL hc hk
 obtain ⟨hL0, hL1, _⟩ := hL
 have hw0 : bwMark a0 := Mark_lens a0 hL0
 clear hL0 hL1
 simp only [pars, Nat.zero_add]
 iterate 3 refine rS ?_
 refine AWP.cond rfl (fun hb => ?_) (fun hb => ?_)
 ·replace hR := ct hR
  refine rS ?_
  refine AWP.ret ?_
  subst hR
  exact es
 ·replace hR := cf hR
  iterate 2 refine rS ?_
  refine AWP.cond rfl (fun hb => ?_) (fun hb => ?_)
  ·replace hR := ct hR
   refine rS ?_
   refine AWP.ret ?_
   subst hR
   exact es
  ·replace hR := cf hR
   iterate 2 refine rS ?_
   refine AWP.cond rfl (fun hb => ?_) (fun hb => ?_)
   ·replace hR := ct hR
    refine rS ?_
    refine AWP.ret ?_
    subst hR
    exact es
   ·replace hR := cf hR
    refine rS ?_
    refine AWP.ret ?_
    subst hR
    exact es
end N84
def D_zuc : DF
 | [x0, x1] => some (.int .i64 (zuc (rdG dMark x0) (rdI x1)), false, [wG eMark dMark x0, wI .i64 x1])
 | _ => none
theorem D_zuc_ok : OkD Tryz.prog 84 D_zuc := by unfold D_zuc; exact dk N84.den
end Go.Ab

namespace Go.Ab
open Go Go.Proofs
def zgc (a0 : (List Int)) (a1 : Int) : Int :=
 (bif decide ((IntKind.wrap .i64 (a1 - (a0.length : Int))) < 0) then (-1) else IntKind.wrap .i64 (a1 - (a0.length : Int)))
namespace N146
theorem DD : DOk Tryz.prog (Go.Ab.DD []) := DD_nil _
theorem den (a0 : (List Int)) (a1 : Int)  : Den Tryz.prog 146 [encL 1 eIi64 a0, .int .i64 a1] (.int .i64 (zgc a0 a1)) := by
 generalize hR : zgc a0 a1 = r
 unfold zgc at hR
 refine di Tryz.func146 Tryz.ntmps146 Tryz.results146 ?_
 intro c hL hc hk
 obtain ⟨hL0, hL1, _⟩ := hL
 have hw0 : a0.length < 9223372036854775808 := Nat.lt_succ_of_le (lens_encL hL0).1
 clear hL0 hL1
 simp only [pars, Nat.zero_add]
 iterate 3 refine rS ?_
 refine AWP.cond rfl (fun hb => ?_) (fun hb => ?_)
 ·replace hR := ct hR
  refine rS ?_
  refine AWP.ret ?_
  subst hR
  exact es
 ·replace hR := cf hR
  refine rS ?_
  refine AWP.ret ?_
  subst hR
  exact es
end N146
def D_zgc : DF
 | [x0, x1] => some (.int .i64 (zgc (rdL dIi64 x0) (rdI x1)), false, [wL 1 eIi64 dIi64 x0, wI .i64 x1])
 | _ => none
theorem D_zgc_ok : OkD Tryz.prog 146 D_zgc := by unfold D_zgc; exact dk N146.den
end Go.Ab

namespace Go.Ab
open Go Go.Proofs
theorem zgc_facts (a : List Int) (n : Int) (h0 : -1 ≤ n) (h1 : n ≤ 1048576) (hl : a.length < 9223372036854775808) :
  -1 ≤ zgc a n ∧ zgc a n ≤ n ∧ (¬ zgc a n < 0 → a.length ≤ 1048576) := by
 unfold zgc
 rw [show IntKind.wrap .i64 (n - (a.length : Int)) = n - a.length from by rw [IntKind.wrap_i64]; omega]
 by_cases c : n - (a.length : Int) < 0
 ·rw [decide_eq_true c]; exact ⟨by simp, by simpa using h0, fun h => absurd (by simp) h⟩
 ·rw [decide_eq_false c]; simp only [cond_false]; omega
end Go.Ab

namespace Go.Ab
open Go Go.Proofs
def zmd (a0 : Character) (a1 : Int) : Int :=
 (bif decide ((zgc a0.Group a1) < 0) then (-1) else (bif decide ((IntKind.wrap .i64 ((zgc a0.Group a1) - (a0.Letter.length : Int))) < 0) then (-1) else (bif decide ((IntKind.wrap .i64 ((IntKind.wrap .i64 ((zgc a0.Group a1) - (a0.Letter.length : Int))) - (a0.Colors.length : Int))) < 0) then (-1) else IntKind.wrap .i64 ((IntKind.wrap .i64 ((zgc a0.Group a1) - (a0.Letter.length : Int))) - (a0.Colors.length : Int)))))
namespace N85
theorem DD : DOk Tryz.prog (Go.Ab.DD [(146, dP D_zgc)]) := DD_cons D_zgc_ok.e <| DD_nil _
theorem dn : type_of% (@D_zgc.eq_1) := by and_intros <;> intros <;> rfl
theorem den (a0 : Character) (a1 : Int)  : Den Tryz.prog 85 [.agg (eCharacter a0), .int .i64 a1] (.int .i64 (zmd a0 a1)) := by
 generalize hR : zmd a0 a1 = r
 unfold zmd at hR
 refine di Tryz.func85 Tryz.ntmps85 Tryz.results85 ?_
 intro c hL hc hk
 obtain ⟨hL0, hL1, _⟩ := hL
 have hw0 : bwCharacter a0 := Character_lens a0 hL0
 clear hL0 hL1
 simp only [pars, Nat.zero_add]
 iterate 3 refine rS ?_
 refine AWP.cond rfl (fun hb => ?_) (fun hb => ?_)
 ·replace hR := ct hR
  refine rS ?_
  refine AWP.ret ?_
  subst hR
  exact es
 ·replace hR := cf hR
  iterate 2 refine rS ?_
  refine AWP.cond rfl (fun hb => ?_) (fun hb => ?_)
  ·replace hR := ct hR
   refine rS ?_
   refine AWP.ret ?_
   subst hR
   exact es
  ·replace hR := cf hR
   iterate 2 refine rS ?_
   refine AWP.cond rfl (fun hb => ?_) (fun hb => ?_)
   ·replace hR := ct hR
    refine rS ?_
    refine AWP.ret ?_
    subst hR
    exact es
   ·replace hR := cf hR
    refine rS ?_
    refine AWP.ret ?_
    subst hR
    exact es
end N85
def D_zmd : DF
 | [x0, x1] => some (.int .i64 (zmd (rdG dCharacter x0) (rdI x1)), false, [wG eCharacter dCharacter x0, wI .i64 x1])
 | _ => none
theorem D_zmd_ok : OkD Tryz.prog 85 D_zmd := by unfold D_zmd; exact dk N85.den
end Go.Ab

namespace Go.Ab
open Go Go.Proofs
def zbe (a0 : Sector) (a1 : Int) : Int :=
 (bif decide ((IntKind.wrap .i64 (a1 - (a0.Color.length : Int))) < 0) then (-1) else IntKind.wrap .i64 (a1 - (a0.Color.length : Int)))
namespace N147
theorem DD : DOk Tryz.prog (Go.Ab.DD []) := DD_nil _
theorem den (a0 : Sector) (a1 : Int)  : Den Tryz.prog 147 [.agg (eSector a0), .int .i64 a1] (.int .i64 (zbe a0 a1)) := by
 generalize hR : zbe a0 a1 = r
 unfold zbe at hR
 refine di Tryz.func147 Tryz.ntmps147 Tryz.results147 ?_
 intro c hL hc hk
 obtain ⟨hL0, hL1, _⟩ := hL
 have hw0 : bwSector a0 := Sector_lens a0 hL0
 clear hL0 hL1
 simp only [pars, Nat.zero_add]
 iterate 3 refine rS ?_
 refine AWP.cond rfl (fun hb => ?_) (fun hb => ?_)
 ·replace hR := ct hR
  refine rS ?_
  refine AWP.ret ?_
  subst hR
  exact es
 ·replace hR := cf hR
  refine rS ?_
  refine AWP.ret ?_
  subst hR
  exact es
end N147
def D_zbe : DF
 | [x0, x1] => some (.int .i64 (zbe (rdG dSector x0) (rdI x1)), false, [wG eSector dSector x0, wI .i64 x1])
 | _ => none
theorem D_zbe_ok : OkD Tryz.prog 147 D_zbe := by unfold D_zbe; exact dk N147.den
end Go.Ab

namespace Go.Ab
open Go Go.Proofs
theorem zbe_facts (x : Sector) (n : Int) (h0 : -1 ≤ n) (h1 : n ≤ 1048576) (hx : bwSector x) : -1 ≤ zbe x n ∧ zbe x n ≤ n ∧ (¬ zbe x n < 0 → smSector x) := by
 have b0 := hx
 unfold zbe
 have b0' : x.Color.length < 9223372036854775808 := b0
 rw [show IntKind.wrap .i64 (n - (x.Color.length : Int)) = n - (x.Color.length : Int) from by rw [IntKind.wrap_i64]; omega]
 by_cases c0 : n - (x.Color.length : Int) < 0
 ·rw [decide_eq_true c0]; exact ⟨by simp, by simpa using h0, fun h => absurd (by simp) h⟩
 rw [decide_eq_false c0]
 simp only [cond_false]
 exact ⟨by omega, by omega, fun _ => (show x.Color.length ≤ 1048576 by omega)⟩
end Go.Ab

namespace Go.Ab
open Go Go.Proofs
def zhc_b1 (a0 : (List Sector)) (a1 : Int) (i1 : Nat) (s1 : Int) : Except (Int) (Int) :=
 (bif decide ((zbe (a0.getD i1 default) s1) < 0) then .error (-1) else .ok (zbe (a0.getD i1 default) s1))
def zhc (a0 : (List Sector)) (a1 : Int) : Int :=
 (bif decide ((IntKind.wrap .i64 (a1 - (a0.length : Int))) < 0) then (-1) else (match loopR (zhc_b1 a0 a1) (a0.length - 0) 0 (IntKind.wrap .i64 (a1 - (a0.length : Int))) with | .error e => e | .ok s1 => s1))
namespace N86
theorem DD : DOk Tryz.prog (Go.Ab.DD [(147, dP D_zbe)]) := DD_cons D_zbe_ok.e <| DD_nil _
theorem dn : type_of% (@D_zbe.eq_1) := by and_intros <;> intros <;> rfl
theorem den (a0 : (List Sector)) (a1 : Int)  : Den Tryz.prog 86 [encL 3 eSector a0, .int .i64 a1] (.int .i64 (zhc a0 a1)) := by
 generalize hR : zhc a0 a1 = r
 unfold zhc at hR
 refine di Tryz.func86 Tryz.ntmps86 Tryz.results86 ?_
 intro c hL hc hk
 obtain ⟨hL0, hL1, _⟩ := hL
 have hw0 : a0.length < 9223372036854775808 := Nat.lt_succ_of_le (lens_encL hL0).1
 have hw1 : ∀ v ∈ a0, bwSector v := fun v hv => Sector_lens v ((lens_encL hL0).2 v hv)
 clear hL0 hL1
 simp only [pars, Nat.zero_add]
 iterate 3 refine rS ?_
 refine AWP.cond rfl (fun hb => ?_) (fun hb => ?_)
 ·replace hR := ct hR
  refine rS ?_
  refine AWP.ret ?_
  subst hR
  exact es
 ·replace hR := cf hR
  refine rS ?_
  refine AWP.block ?_
  generalize hz1 : loopR (zhc_b1 a0 a1) (a0.length - 0) 0 (IntKind.wrap .i64 (a1 - (a0.length : Int))) = z1 at hR
  refine AWP.range (zhc_b1 a0 a1) (fun i1 s1 => ⟨[(0, encL 3 eSector a0), (1, .int .i64 s1), (5, .int .i64 (i1 : Int))], []⟩) (fun i1 s1 => True) (a0.length) 0 (IntKind.wrap .i64 (a1 - (a0.length : Int))) [] hz1 ot wt sm ?_
  clear hz1
  intro i1 s1 hi1 hW1 hz1
  refine rS ?_
  refine AWP.cond rfl (fun hb => ?_) (fun hb => ?_)
  ·have hlt1 : i1 < a0.length := ot
   rw [loopR_lt hlt1] at hz1; simp only [zhc_b1] at hz1
   iterate 2 refine rS ?_
   refine AWP.cond rfl (fun hb => ?_) (fun hb => ?_)
   ·simp only [hb, cond_true] at hz1
    refine rS ?_
    refine AWP.ret ?_
    subst hz1
    dsimp only at hR
    subst hR
    exact es
   ·simp only [hb, cond_false] at hz1
    refine rS ?_
    exact ⟨_, [], hlt1, wt, hz1, sm⟩
  ·obtain rfl : i1 = a0.length := ot
   rw [loopR_ge (Nat.le_refl _)] at hz1; subst hz1; dsimp only at hR
   refine AWP.exit ?_; refine exitTo_here ?_
   refine rS ?_
   refine AWP.ret ?_
   subst hR
   exact es
end N86
def D_zhc : DF
 | [x0, x1] => some (.int .i64 (zhc (rdL dSector x0) (rdI x1)), false, [wL 3 eSector dSector x0, wI .i64 x1])
 | _ => none
theorem D_zhc_ok : OkD Tryz.prog 86 D_zhc := by unfold D_zhc; exact dk N86.den
end Go.Ab

namespace Go.Ab
open Go Go.Proofs
theorem zuc_facts (x : Mark) (n : Int) (h0 : -1 ≤ n) (h1 : n ≤ 1048576) (hx : bwMark x) : -1 ≤ zuc x n ∧ zuc x n ≤ n ∧ (¬ zuc x n < 0 → smMark x) := by
 obtain ⟨b0, b1, b2⟩ := hx
 unfold zuc
 have b0' : x.Colors.length < 9223372036854775808 := b0
 rw [show IntKind.wrap .i64 (n - (x.Colors.length : Int)) = n - (x.Colors.length : Int) from by rw [IntKind.wrap_i64]; omega]
 by_cases c0 : n - (x.Colors.length : Int) < 0
 ·rw [decide_eq_true c0]; exact ⟨by simp, by simpa using h0, fun h => absurd (by simp) h⟩
 rw [decide_eq_false c0]
 simp only [cond_false]
 have b1' : x.Shape.length < 9223372036854775808 := b1
 rw [show IntKind.wrap .i64 (n - (x.Colors.length : Int) - (x.Shape.length : Int)) = n - (x.Colors.length : Int) - (x.Shape.length : Int) from by rw [IntKind.wrap_i64]; omega]
 by_cases c1 : n - (x.Colors.length : Int) - (x.Shape.length : Int) < 0
 ·rw [decide_eq_true c1]; exact ⟨by simp, by simpa using h0, fun h => absurd (by simp) h⟩
 rw [decide_eq_false c1]
 simp only [cond_false]
 have b2' : x.Topmark.length < 9223372036854775808 := b2
 rw [show IntKind.wrap .i64 (n - (x.Colors.length : Int) - (x.Shape.length : Int) - (x.Topmark.length : Int)) = n - (x.Colors.length : Int) - (x.Shape.length : Int) - (x.Topmark.length : Int) from by rw [IntKind.wrap_i64]; omega]
 by_cases c2 : n - (x.Colors.length : Int) - (x.Shape.length : Int) - (x.Topmark.length : Int) < 0
 ·rw [decide_eq_true c2]; exact ⟨by simp, by simpa using h0, fun h => absurd (by simp) h⟩
 rw [decide_eq_false c2]
 simp only [cond_false]
 exact ⟨by omega, by omega, fun _ => ⟨by omega, by omega, by omega⟩⟩
end Go.Ab

namespace Go.Ab
open Go Go.Proofs
theorem zmd_facts (x : Character) (n : Int) (h0 : -1 ≤ n) (h1 : n ≤ 1048576) (hx : bwCharacter x) : -1 ≤ zmd x n ∧ zmd x n ≤ n ∧ (¬ zmd x n < 0 → smCharacter x) := by
 obtain ⟨b0, b1, b2⟩ := hx
 unfold zmd
 have f0 := zgc_facts x.Group (n) (by omega) (by omega) b0
 by_cases c0 : zgc x.Group (n) < 0
 ·rw [decide_eq_true c0]; exact ⟨by simp, by simpa using h0, fun h => absurd (by simp) h⟩
 rw [decide_eq_false c0]
 simp only [cond_false]
 have b1' : x.Letter.length < 9223372036854775808 := b1
 rw [show IntKind.wrap .i64 (zgc x.Group (n) - (x.Letter.length : Int)) = zgc x.Group (n) - (x.Letter.length : Int) from by rw [IntKind.wrap_i64]; omega]
 by_cases c1 : zgc x.Group (n) - (x.Letter.length : Int) < 0
 ·rw [decide_eq_true c1]; exact ⟨by simp, by simpa using h0, fun h => absurd (by simp) h⟩
 rw [decide_eq_false c1]
 simp only [cond_false]
 have b2' : x.Colors.length < 9223372036854775808 := b2
 rw [show IntKind.wrap .i64 (zgc x.Group (n) - (x.Letter.length : Int) - (x.Colors.length : Int)) = zgc x.Group (n) - (x.Letter.length : Int) - (x.Colors.length : Int) from by rw [IntKind.wrap_i64]; omega]
 by_cases c2 : zgc x.Group (n) - (x.Letter.length : Int) - (x.Colors.length : Int) < 0
 ·rw [decide_eq_true c2]; exact ⟨by simp, by simpa using h0, fun h => absurd (by simp) h⟩
 rw [decide_eq_false c2]
 simp only [cond_false]
 exact ⟨by omega, by omega, fun _ => ⟨f0.2.2 c0, by omega, by omega⟩⟩
end Go.Ab

namespace Go.Ab
open Go Go.Proofs
theorem zhc_facts (a : List Sector) (n : Int) (h0 : -1 ≤ n) (h1 : n ≤ 1048576) (hl : a.length < 9223372036854775808) (hx : ∀ v ∈ a, bwSector v) :
  -1 ≤ zhc a n ∧ zhc a n ≤ n ∧ (¬ zhc a n < 0 → a.length ≤ 1048576 ∧ ∀ v ∈ a, smSector v) := by
 unfold zhc
 rw [show IntKind.wrap .i64 (n - (a.length : Int)) = n - a.length from by rw [IntKind.wrap_i64]; omega]
 by_cases c : n - (a.length : Int) < 0
 ·rw [decide_eq_true c]; exact ⟨by simp, by simpa using h0, fun h => absurd (by simp) h⟩
 ·rw [decide_eq_false c]
  simp only [cond_false]
  split
  ·rename_i e h
   obtain ⟨j, t, _, _, h3⟩ := loopR_error h
   simp only [zhc_b1] at h3
   have : e = -1 := by
    cases hq : decide (zbe (a.getD j default) t < 0) with
    | true => rw [hq] at h3; simpa using h3.symm
    | false => rw [hq] at h3; simp at h3
   omega
  ·rename_i s h
   have := loopR_inv (b := zhc_b1 a n) (fun i s => -1 ≤ s ∧ s ≤ n - a.length ∧ ∀ j, j < i → smSector (a.getD j default)) ⟨by omega, by omega, by intro j hj; omega⟩ (by
    intro j u v h1 h2 ⟨h3, h4, h5⟩ h6
    simp only [zhc_b1] at h6
    have hb : bwSector (a.getD j default) := bd_getD hx (by decide) j
    have hf := zbe_facts (a.getD j default) u h3 (by omega) hb
    cases hq : decide (zbe (a.getD j default) u < 0) with
    | true => rw [hq] at h6; simp at h6
    | false =>
     rw [hq] at h6
     simp only [cond_false, Except.ok.injEq] at h6
     subst h6
     refine ⟨by omega, by omega, fun q hq2 => ?_⟩
     by_cases hqj : q = j
     ·subst hqj; exact hf.2.2 (of_decide_eq_false hq)
     ·exact h5 q (by omega)) h
   refine ⟨by omega, by omega, fun _ => ⟨by omega, fun v hv => ?_⟩⟩
   obtain ⟨i, hi, rfl⟩ := List.getElem_of_mem hv
   have := this.2.2 i (by omega)
   simpa [List.getD_eq_getElem?_getD, hi] using this
end Go.Ab

namespace Go.Ab
open Go Go.Proofs
def zgb (a0 : Aid) (a1 : Int) : Int :=
 (bif decide ((IntKind.wrap .i64 (a1 - (a0.Name.length : Int))) < 0) then (-1) else (bif decide ((zuc a0.Mark (IntKind.wrap .i64 (a1 - (a0.Name.length : Int)))) < 0) then (-1) else (bif decide ((zmd a0.Light (zuc a0.Mark (IntKind.wrap .i64 (a1 - (a0.Name.length : Int))))) < 0) then (-1) else (bif decide ((zhc a0.Sectors (zmd a0.Light (zuc a0.Mark (IntKind.wrap .i64 (a1 - (a0.Name.length : Int)))))) < 0) then (-1) else (zhc a0.Sectors (zmd a0.Light (zuc a0.Mark (IntKind.wrap .i64 (a1 - (a0.Name.length : Int))))))))))
namespace N31
theorem DD : DOk Tryz.prog (Go.Ab.DD [(84, dP D_zuc), (85, dP D_zmd), (86, dP D_zhc)]) := DD_cons D_zuc_ok.e <| DD_cons D_zmd_ok.e <| DD_cons D_zhc_ok.e <| DD_nil _
theorem dn : type_of% (And.intro @D_zuc.eq_1 <| And.intro @D_zmd.eq_1 <| @D_zhc.eq_1) := by and_intros <;> intros <;> rfl
theorem den (a0 : Aid) (a1 : Int)  : Den Tryz.prog 31 [.agg (eAid a0), .int .i64 a1] (.int .i64 (zgb a0 a1)) := by
 generalize hR : zgb a0 a1 = r
 unfold zgb at hR
 refine di Tryz.func31 Tryz.ntmps31 Tryz.results31 ?_
 intro c hL hc hk
 obtain ⟨hL0, hL1, _⟩ := hL
 have hw0 : bwAid a0 := Aid_lens a0 hL0
 clear hL0 hL1
 simp only [pars, Nat.zero_add]
 iterate 3 refine rS ?_
 refine AWP.cond rfl (fun hb => ?_) (fun hb => ?_)
 ·replace hR := ct hR
  refine rS ?_
  refine AWP.ret ?_
  subst hR
  exact es
 ·replace hR := cf hR
  iterate 2 refine rS ?_
  refine AWP.cond rfl (fun hb => ?_) (fun hb => ?_)
  ·replace hR := ct hR
   refine rS ?_
   refine AWP.ret ?_
   subst hR
   exact es
  ·replace hR := cf hR
   iterate 2 refine rS ?_
   refine AWP.cond rfl (fun hb => ?_) (fun hb => ?_)
   ·replace hR := ct hR
    refine rS ?_
    refine AWP.ret ?_
    subst hR
    exact es
   ·replace hR := cf hR
    iterate 2 refine rS ?_
    refine AWP.cond rfl (fun hb => ?_) (fun hb => ?_)
    ·replace hR := ct hR
     refine rS ?_
     refine AWP.ret ?_
     subst hR
     exact es
    ·replace hR := cf hR
     refine rS ?_
     refine AWP.ret ?_
     subst hR
     exact es
end N31
def D_zgb : DF
 | [x0, x1] => some (.int .i64 (zgb (rdG dAid x0) (rdI x1)), false, [wG eAid dAid x0, wI .i64 x1])
 | _ => none
theorem D_zgb_ok : OkD Tryz.prog 31 D_zgb := by unfold D_zgb; exact dk N31.den
end Go.Ab

namespace Go.Ab
open Go Go.Proofs
theorem zgb_facts (x : Aid) (n : Int) (h0 : -1 ≤ n) (h1 : n ≤ 1048576) (hx : bwAid x) : -1 ≤ zgb x n ∧ zgb x n ≤ n ∧ (¬ zgb x n < 0 → smAid x) := by
 obtain ⟨b0, b1, b2, b3⟩ := hx
 unfold zgb
 have b0' : x.Name.length < 9223372036854775808 := b0
 rw [show IntKind.wrap .i64 (n - (x.Name.length : Int)) = n - (x.Name.length : Int) from by rw [IntKind.wrap_i64]; omega]
 by_cases c0 : n - (x.Name.length : Int) < 0
 ·rw [decide_eq_true c0]; exact ⟨by simp, by simpa using h0, fun h => absurd (by simp) h⟩
 rw [decide_eq_false c0]
 simp only [cond_false]
 have f1 := zuc_facts x.Mark (n - (x.Name.length : Int)) (by omega) (by omega) b1
 by_cases c1 : zuc x.Mark (n - (x.Name.length : Int)) < 0
 ·rw [decide_eq_true c1]; exact ⟨by simp, by simpa using h0, fun h => absurd (by simp) h⟩
 rw [decide_eq_false c1]
 simp only [cond_false]
 have f2 := zmd_facts x.Light (zuc x.Mark (n - (x.Name.length : Int))) (by omega) (by omega) b2
 by_cases c2 : zmd x.Light (zuc x.Mark (n - (x.Name.length : Int))) < 0
 ·rw [decide_eq_true c2]; exact ⟨by simp, by simpa using h0, fun h => absurd (by simp) h⟩
 rw [decide_eq_false c2]
 simp only [cond_false]
 have f3 := zhc_facts x.Sectors (zmd x.Light (zuc x.Mark (n - (x.Name.length : Int)))) (by omega) (by omega) b3.1 b3.2
 by_cases c3 : zhc x.Sectors (zmd x.Light (zuc x.Mark (n - (x.Name.length : Int)))) < 0
 ·rw [decide_eq_true c3]; exact ⟨by simp, by simpa using h0, fun h => absurd (by simp) h⟩
 rw [decide_eq_false c3]
 simp only [cond_false]
 exact ⟨by omega, by omega, fun _ => ⟨by omega, f1.2.2 c1, f2.2.2 c2, f3.2.2 c3⟩⟩
end Go.Ab
