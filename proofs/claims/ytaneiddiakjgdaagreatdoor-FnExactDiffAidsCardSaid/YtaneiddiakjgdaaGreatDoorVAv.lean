/- A part of a proof: walks of functions and lemmas of our own. No conditions. -/
import Derived.Test.YtaneiddiakjgdaaGreatDoorVAl
import Derived.Test.YtaneiddiakjgdaaGreatDoorVAo
set_option linter.unusedSectionVars false
set_option linter.unusedVariables false
set_option linter.unusedSimpArgs false
set_option maxHeartbeats 1000000
namespace Go.Ab
open Go Go.Proofs
def zne (a0 : Int) : Bool :=
 (decide (97 ≤ a0) && decide (a0 ≤ 122))
namespace N187
theorem DD : DOk Tryz.prog (Go.Ab.DD []) := DD_nil _
theorem den (a0 : Int)  : Den Tryz.prog 187 [.int .u8 a0] (.bool (zne a0)) := by
 generalize hR : zne a0 = r
 unfold zne at hR
 refine di Tryz.func187 Tryz.ntmps187 Tryz.results187 ?_
 intro c hL hc hk
 clear hL
 simp only [pars, Nat.zero_add]
 iterate 2 refine rS ?_
 refine AWP.ret ?_
 subst hR
 exact es
end N187
def D_zne : DF
 | [x0] => some (.bool (zne (rdI x0)), false, [wI .u8 x0])
 | _ => none
theorem D_zne_ok : OkD Tryz.prog 187 D_zne := by unfold D_zne; exact dk N187.den
end Go.Ab

namespace Go.Ab
open Go Go.Proofs
def zlg (a0 : Int) : Bool :=
 (decide (48 ≤ a0) && decide (a0 ≤ 57))
namespace N188
theorem DD : DOk Tryz.prog (Go.Ab.DD []) := DD_nil _
theorem den (a0 : Int)  : Den Tryz.prog 188 [.int .u8 a0] (.bool (zlg a0)) := by
 generalize hR : zlg a0 = r
 unfold zlg at hR
 refine di Tryz.func188 Tryz.ntmps188 Tryz.results188 ?_
 intro c hL hc hk
 clear hL
 simp only [pars, Nat.zero_add]
 iterate 2 refine rS ?_
 refine AWP.ret ?_
 subst hR
 exact es
end N188
def D_zlg : DF
 | [x0] => some (.bool (zlg (rdI x0)), false, [wI .u8 x0])
 | _ => none
theorem D_zlg_ok : OkD Tryz.prog 188 D_zlg := by unfold D_zlg; exact dk N188.den
end Go.Ab

namespace Go.Ab
open Go Go.Proofs
def ztd_b1 (a0 : (List UInt8)) (i1 : Nat) (s1 : Unit) : Except (Bool) (Unit) :=
 (bif ((!(zne ((a0.getD i1 0).toNat : Int))) && (!(zlg ((a0.getD i1 0).toNat : Int)))) then .error false else .ok ())
def ztd (a0 : (List UInt8)) : Bool :=
 (bif (((a0 == []) || decide (10 < (a0.length : Int))) || (!(zne ((a0.getD 0 0).toNat : Int)))) then false else (match loopR (ztd_b1 a0) (a0.length - 0) 0 () with | .error e => e | .ok s1 => true))
namespace N148
theorem DD : DOk Tryz.prog (Go.Ab.DD [(187, dP D_zne), (188, dP D_zlg)]) := DD_cons D_zne_ok.e <| DD_cons D_zlg_ok.e <| DD_nil _
theorem dn : type_of% (And.intro @D_zne.eq_1 <| @D_zlg.eq_1) := by and_intros <;> intros <;> rfl
theorem den (a0 : (List UInt8))  : Den Tryz.prog 148 [.str a0] (.bool (ztd a0)) := by
 generalize hR : ztd a0 = r
 unfold ztd at hR
 refine di Tryz.func148 Tryz.ntmps148 Tryz.results148 ?_
 intro c hL hc hk
 obtain ⟨hL0, _⟩ := hL
 have hw0 : a0.length < 9223372036854775808 := Nat.lt_succ_of_le hL0
 clear hL0
 simp only [pars, Nat.zero_add]
 iterate 2 refine rS ?_
 refine AWP.cond rfl (fun hb => ?_) (fun hb => ?_)
 ·replace hR := ct hR
  refine rS ?_
  refine AWP.ret ?_
  subst hR
  exact es
 ·replace hR := cf hR
  refine rS ?_
  refine AWP.block ?_
  generalize hz1 : loopR (ztd_b1 a0) (a0.length - 0) 0 () = z1 at hR
  refine AWP.range (ztd_b1 a0) (fun i1 s1 => ⟨[(0, .str a0), (3, .int .i64 (i1 : Int))], []⟩) (fun i1 s1 => True) (a0.length) 0 () [] hz1 ot wt sm ?_
  clear hz1
  intro i1 s1 hi1 hW1 hz1
  refine rS ?_
  refine AWP.cond rfl (fun hb => ?_) (fun hb => ?_)
  ·have hlt1 : i1 < a0.length := ot
   rw [loopR_lt hlt1] at hz1; simp only [ztd_b1] at hz1
   refine rS ?_
   refine AWP.cond rfl (fun hb => ?_) (fun hb => ?_)
   ·simp only [hb, cond_true] at hz1
    refine rS ?_
    refine AWP.ret ?_
    subst hz1
    dsimp only at hR
    subst hR
    exact es
   ·simp only [hb, cond_false] at hz1
    refine rS ?_
    exact ⟨_, [], hlt1, wt, hz1, sm⟩
  ·obtain rfl : i1 = a0.length := ot
   rw [loopR_ge (Nat.le_refl _)] at hz1; subst hz1; dsimp only at hR
   refine AWP.exit ?_; refine exitTo_here ?_
   refine rS ?_
   refine AWP.ret ?_
   subst hR
   exact es
end N148
def D_ztd : DF
 | [x0] => some (.bool (ztd (rdS x0)), false, [wS x0])
 | _ => none
theorem D_ztd_ok : OkD Tryz.prog 148 D_ztd := by unfold D_ztd; exact dk N148.den
end Go.Ab

namespace Go.Ab
open Go Go.Proofs
def ze (a0 : Int) (a1 : Int) (a2 : Int) : Bool :=
 (decide (a1 ≤ a0) && decide (a0 ≤ a2))
namespace N137
theorem DD : DOk Tryz.prog (Go.Ab.DD []) := DD_nil _
theorem den (a0 : Int) (a1 : Int) (a2 : Int)  : Den Tryz.prog 137 [.int .i64 a0, .int .i64 a1, .int .i64 a2] (.bool (ze a0 a1 a2)) := by
 generalize hR : ze a0 a1 a2 = r
 unfold ze at hR
 refine di Tryz.func137 Tryz.ntmps137 Tryz.results137 ?_
 intro c hL hc hk
 clear hL
 simp only [pars, Nat.zero_add]
 iterate 2 refine rS ?_
 refine AWP.ret ?_
 subst hR
 exact es
end N137
def D_ze : DF
 | [x0, x1, x2] => some (.bool (ze (rdI x0) (rdI x1) (rdI x2)), false, [wI .i64 x0, wI .i64 x1, wI .i64 x2])
 | _ => none
theorem D_ze_ok : OkD Tryz.prog 137 D_ze := by unfold D_ze; exact dk N137.den
end Go.Ab

namespace Go.Ab
open Go Go.Proofs
def zie_b1 (a0 : (List Int)) (i1 : Nat) (s1 : Int) : Except (Int) (Int) :=
 .ok (IntKind.wrap .i64 (s1 + (a0.getD i1 default)))
def zie (a0 : (List Int)) : Int :=
 (bif ((a0.length : Int) == 0) then 1 else (match loopR (zie_b1 a0) (a0.length - 0) 0 0 with | .error e => e | .ok s1 => s1))
namespace N247
theorem DD : DOk Tryz.prog (Go.Ab.DD []) := DD_nil _
theorem den (a0 : (List Int))  : Den Tryz.prog 247 [encL 1 eIi64 a0] (.int .i64 (zie a0)) := by
 generalize hR : zie a0 = r
 unfold zie at hR
 refine di Tryz.func247 Tryz.ntmps247 Tryz.results247 ?_
 intro c hL hc hk
 obtain ⟨hL0, _⟩ := hL
 have hw0 : a0.length < 9223372036854775808 := Nat.lt_succ_of_le (lens_encL hL0).1
 clear hL0
 simp only [pars, Nat.zero_add]
 iterate 2 refine rS ?_
 refine AWP.cond rfl (fun hb => ?_) (fun hb => ?_)
 ·replace hR := ct hR
  refine rS ?_
  refine AWP.ret ?_
  subst hR
  exact es
 ·replace hR := cf hR
  iterate 2 refine rS ?_
  refine AWP.block ?_
  generalize hz1 : loopR (zie_b1 a0) (a0.length - 0) 0 0 = z1 at hR
  refine AWP.range (zie_b1 a0) (fun i1 s1 => ⟨[(0, encL 1 eIi64 a0), (3, .int .i64 s1), (4, .int .i64 (i1 : Int))], []⟩) (fun i1 s1 => True) (a0.length) 0 0 [] hz1 ot wt sm ?_
  clear hz1
  intro i1 s1 hi1 hW1 hz1
  refine rS ?_
  refine AWP.cond rfl (fun hb => ?_) (fun hb => ?_)
  ·have hlt1 : i1 < a0.length := ot
   rw [loopR_lt hlt1] at hz1; simp only [zie_b1] at hz1
   iterate 2 refine rS ?_
   exact ⟨_, [], hlt1, wt, hz1, sm⟩
  ·obtain rfl : i1 = a0.length := ot
   rw [loopR_ge (Nat.le_refl _)] at hz1; subst hz1; dsimp only at hR
   refine AWP.exit ?_; refine exitTo_here ?_
   refine rS ?_
   refine AWP.ret ?_
   subst hR
   exact es
end N247
def D_zie : DF
 | [x0] => some (.int .i64 (zie (rdL dIi64 x0)), false, [wL 1 eIi64 dIi64 x0])
 | _ => none
theorem D_zie_ok : OkD Tryz.prog 247 D_zie := by unfold D_zie; exact dk N247.den
end Go.Ab

namespace Go.Ab
open Go Go.Proofs
def zcd_b1 (a0 : (List Int)) (i1 : Nat) (s1 : Unit) : Except (Bool) (Unit) :=
 (bif (!(ze (a0.getD i1 default) 1 9)) then .error false else .ok ())
def zcd (a0 : (List Int)) : Bool :=
 (match loopR (zcd_b1 a0) (a0.length - 0) 0 () with | .error e => e | .ok s1 => ((decide ((a0.length : Int) ≤ 4) && (!(((a0.length : Int) == 1) && ((a0.getD 0 default) == 1)))) && decide ((zie a0) ≤ 12)))
namespace N226
theorem DD : DOk Tryz.prog (Go.Ab.DD [(137, dP D_ze), (247, dP D_zie)]) := DD_cons D_ze_ok.e <| DD_cons D_zie_ok.e <| DD_nil _
theorem dn : type_of% (And.intro @D_ze.eq_1 <| @D_zie.eq_1) := by and_intros <;> intros <;> rfl
theorem ol : type_of% (@ze.eq_1) := @ze.eq_1
theorem den (a0 : (List Int))  : Den Tryz.prog 226 [encL 1 eIi64 a0] (.bool (zcd a0)) := by
 generalize hR : zcd a0 = r
 unfold zcd at hR
 refine di Tryz.func226 Tryz.ntmps226 Tryz.results226 ?_
 intro c hL hc hk
 obtain ⟨hL0, _⟩ := hL
 have hw0 : a0.length < 9223372036854775808 := Nat.lt_succ_of_le (lens_encL hL0).1
 clear hL0
 simp only [pars, Nat.zero_add]
 iterate 2 refine rS ?_
 refine AWP.block ?_
 generalize hz1 : loopR (zcd_b1 a0) (a0.length - 0) 0 () = z1 at hR
 refine AWP.range (zcd_b1 a0) (fun i1 s1 => ⟨[(0, encL 1 eIi64 a0), (3, .int .i64 (i1 : Int))], []⟩) (fun i1 s1 => True) (a0.length) 0 () [] hz1 ot wt sm ?_
 clear hz1
 intro i1 s1 hi1 hW1 hz1
 refine rS ?_
 refine AWP.cond rfl (fun hb => ?_) (fun hb => ?_)
 ·have hlt1 : i1 < a0.length := ot
  rw [loopR_lt hlt1] at hz1; simp only [zcd_b1] at hz1
  refine rS ?_
  refine AWP.cond rfl (fun hb => ?_) (fun hb => ?_)
  ·simp only [hb, cond_true] at hz1
   refine rS ?_
   refine AWP.ret ?_
   subst hz1
   dsimp only at hR
   subst hR
   exact es
  ·simp only [hb, cond_false] at hz1
   refine rS ?_
   exact ⟨_, [], hlt1, wt, hz1, sm⟩
 ·obtain rfl : i1 = a0.length := ot
  rw [loopR_ge (Nat.le_refl _)] at hz1; subst hz1; dsimp only at hR
  refine AWP.exit ?_; refine exitTo_here ?_
  refine rS ?_
  refine AWP.ret ?_
  subst hR
  exact es
end N226
def D_zcd : DF
 | [x0] => some (.bool (zcd (rdL dIi64 x0)), false, [wL 1 eIi64 dIi64 x0])
 | _ => none
theorem D_zcd_ok : OkD Tryz.prog 226 D_zcd := by unfold D_zcd; exact dk N226.den
end Go.Ab

namespace Go.Ab
open Go Go.Proofs
def zye (a0 : Int) : Int :=
 (bif (a0 == 87) then 1 else (bif (a0 == 82) then 2 else (bif (a0 == 71) then 3 else (bif (a0 == 89) then 4 else 0))))
namespace N246
theorem DD : DOk Tryz.prog (Go.Ab.DD []) := DD_nil _
theorem den (a0 : Int)  : Den Tryz.prog 246 [.int .u8 a0] (.int .i64 (zye a0)) := by
 generalize hR : zye a0 = r
 unfold zye at hR
 refine di Tryz.func246 Tryz.ntmps246 Tryz.results246 ?_
 intro c hL hc hk
 clear hL
 simp only [pars, Nat.zero_add]
 iterate 3 refine rS ?_
 refine AWP.cond rfl (fun hb => ?_) (fun hb => ?_)
 ·replace hR := ct hR
  refine rS ?_
  refine AWP.ret ?_
  subst hR
  exact es
 ·replace hR := cf hR
  refine rS ?_
  refine AWP.cond rfl (fun hb => ?_) (fun hb => ?_)
  ·replace hR := ct hR
   refine rS ?_
   refine AWP.ret ?_
   subst hR
   exact es
  ·replace hR := cf hR
   refine rS ?_
   refine AWP.cond rfl (fun hb => ?_) (fun hb => ?_)
   ·replace hR := ct hR
    refine rS ?_
    refine AWP.ret ?_
    subst hR
    exact es
   ·replace hR := cf hR
    refine rS ?_
    refine AWP.cond rfl (fun hb => ?_) (fun hb => ?_)
    ·replace hR := ct hR
     refine rS ?_
     refine AWP.ret ?_
     subst hR
     exact es
    ·replace hR := cf hR
     refine rS ?_
     refine AWP.ret ?_
     subst hR
     exact es
end N246
def D_zye : DF
 | [x0] => some (.int .i64 (zye (rdI x0)), false, [wI .u8 x0])
 | _ => none
theorem D_zye_ok : OkD Tryz.prog 246 D_zye := by unfold D_zye; exact dk N246.den
end Go.Ab

namespace Go.Ab
open Go Go.Proofs
def zud_b1 (a0 : (List UInt8)) (i1 : Nat) (s1 : Unit) : Except (Bool) (Unit) :=
 (bif (((zye ((a0.getD i1 0).toNat : Int)) == 0) || (decide (0 < (i1 : Int)) && decide ((zye ((a0.getD i1 0).toNat : Int)) ≤ (zye ((a0.getD ((IntKind.wrap .i64 ((i1 : Int) - 1)).toNat) 0).toNat : Int))))) then .error false else .ok ())
def zud (a0 : (List UInt8)) : Bool :=
 (match loopR (zud_b1 a0) (a0.length - 0) 0 () with | .error e => e | .ok s1 => (decide (1 ≤ (a0.length : Int)) && decide ((a0.length : Int) ≤ 3)))
namespace N225
theorem DD : DOk Tryz.prog (Go.Ab.DD [(246, dP D_zye)]) := DD_cons D_zye_ok.e <| DD_nil _
theorem dn : type_of% (@D_zye.eq_1) := by and_intros <;> intros <;> rfl
theorem den (a0 : (List UInt8))  : Den Tryz.prog 225 [.str a0] (.bool (zud a0)) := by
 generalize hR : zud a0 = r
 unfold zud at hR
 refine di Tryz.func225 Tryz.ntmps225 Tryz.results225 ?_
 intro c hL hc hk
 obtain ⟨hL0, _⟩ := hL
 have hw0 : a0.length < 9223372036854775808 := Nat.lt_succ_of_le hL0
 clear hL0
 simp only [pars, Nat.zero_add]
 iterate 2 refine rS ?_
 refine AWP.block ?_
 generalize hz1 : loopR (zud_b1 a0) (a0.length - 0) 0 () = z1 at hR
 refine AWP.range (zud_b1 a0) (fun i1 s1 => ⟨[(0, .str a0), (3, .int .i64 (i1 : Int))], []⟩) (fun i1 s1 => True) (a0.length) 0 () [] hz1 ot wt sm ?_
 clear hz1
 intro i1 s1 hi1 hW1 hz1
 refine rS ?_
 refine AWP.cond rfl (fun hb => ?_) (fun hb => ?_)
 ·have hlt1 : i1 < a0.length := ot
  rw [loopR_lt hlt1] at hz1; simp only [zud_b1] at hz1
  refine rD 21 ?_
  refine AWP.cond rfl (fun hb => ?_) (fun hb => ?_)
  ·simp only [hb, cond_true] at hz1
   refine rS ?_
   refine AWP.ret ?_
   subst hz1
   dsimp only at hR
   subst hR
   exact es
  ·simp only [hb, cond_false] at hz1
   refine rS ?_
   exact ⟨_, [], hlt1, wt, hz1, sm⟩
 ·obtain rfl : i1 = a0.length := ot
  rw [loopR_ge (Nat.le_refl _)] at hz1; subst hz1; dsimp only at hR
  refine AWP.exit ?_; refine exitTo_here ?_
  refine rS ?_
  refine AWP.ret ?_
  subst hR
  exact es
end N225
def D_zud : DF
 | [x0] => some (.bool (zud (rdS x0)), false, [wS x0])
 | _ => none
theorem D_zud_ok : OkD Tryz.prog 225 D_zud := by unfold D_zud; exact dk N225.den
end Go.Ab

namespace Go.Ab
open Go Go.Proofs
def zch (a0 : Int) : Bool :=
 (ze a0 1 8)
namespace N224
theorem DD : DOk Tryz.prog (Go.Ab.DD [(137, dP D_ze)]) := DD_cons D_ze_ok.e <| DD_nil _
theorem dn : type_of% (@D_ze.eq_1) := by and_intros <;> intros <;> rfl
theorem ol : type_of% (@ze.eq_1) := @ze.eq_1
theorem den (a0 : Int)  : Den Tryz.prog 224 [.int .i64 a0] (.bool (zch a0)) := by
 generalize hR : zch a0 = r
 unfold zch at hR
 refine di Tryz.func224 Tryz.ntmps224 Tryz.results224 ?_
 intro c hL hc hk
 clear hL
 simp only [pars, Nat.zero_add]
 iterate 2 refine rS ?_
 refine AWP.ret ?_
 subst hR
 exact es
end N224
def D_zch : DF
 | [x0] => some (.bool (zch (rdI x0)), false, [wI .i64 x0])
 | _ => none
theorem D_zch_ok : OkD Tryz.prog 224 D_zch := by unfold D_zch; exact dk N224.den
end Go.Ab

namespace Go.Ab
open Go Go.Proofs
def zze (a0 : Character) : Bool :=
 (bif ((!(zch a0.Kind)) || (!(zud a0.Colors))) then false else (bif (a0.Kind == 1) then (((a0.Group.length : Int) == 0) && (a0.Letter == [])) else (bif (a0.Kind == 3) then (((a0.Group.length : Int) == 0) && (a0.Letter == [])) else (bif (a0.Kind == 6) then (bif (a0.Letter == [76]) then (((a0.Group.length : Int) == 1) && ((a0.Group.getD 0 default) == 6)) else (((a0.Letter == []) && decide ((a0.Group.length : Int) ≤ 1)) && (zcd a0.Group))) else (bif (a0.Kind == 7) then (bif (a0.Letter == [76]) then (((a0.Group.length : Int) == 1) && ((a0.Group.getD 0 default) == 6)) else (((a0.Letter == []) && decide ((a0.Group.length : Int) ≤ 1)) && (zcd a0.Group))) else (bif (a0.Kind == 8) then (((((a0.Group.length : Int) == 0) && ((a0.Letter.length : Int) == 1)) && decide (65 ≤ ((a0.Letter.getD 0 0).toNat : Int))) && decide (((a0.Letter.getD 0 0).toNat : Int) ≤ 90)) else ((a0.Letter == []) && (zcd a0.Group))))))))
namespace N190
theorem DD : DOk Tryz.prog (Go.Ab.DD [(224, dP D_zch), (225, dP D_zud), (226, dP D_zcd)]) := DD_cons D_zch_ok.e <| DD_cons D_zud_ok.e <| DD_cons D_zcd_ok.e <| DD_nil _
theorem dn : type_of% (And.intro @D_zch.eq_1 <| And.intro @D_zud.eq_1 <| @D_zcd.eq_1) := by and_intros <;> intros <;> rfl
theorem den (a0 : Character)  : Den Tryz.prog 190 [.ep (eCharacter a0)] (.bool (zze a0)) := by
 generalize hR : zze a0 = r
 unfold zze at hR
 refine di Tryz.func190 Tryz.ntmps190 Tryz.results190 ?_
 intro c hL hc hk
 obtain ⟨hL0, _⟩ := hL
 have hw0 : bwCharacter a0 := Character_lens a0 hL0
 clear hL0
 simp only [pars, Nat.zero_add]
 iterate 2 refine rS ?_
 refine AWP.cond rfl (fun hb => ?_) (fun hb => ?_)
 ·replace hR := ct hR
  refine rS ?_
  refine AWP.ret ?_
  subst hR
  exact es
 ·replace hR := cf hR
  iterate 2 refine rS ?_
  refine AWP.cond rfl (fun hb => ?_) (fun hb => ?_)
  ·replace hR := ct hR
   refine AWP.skip ?_
   refine AWP.cond rfl (fun hb => ?_) (fun hb => ?_)
   ·refine rS ?_
    refine AWP.ret ?_
    subst hR
    exact es
   ·exfalso; simp_all
  ·replace hR := cf hR
   refine rS ?_
   refine AWP.cond rfl (fun hb => ?_) (fun hb => ?_)
   ·replace hR := ct hR
    refine rS ?_
    refine AWP.ret ?_
    subst hR
    exact es
   ·replace hR := cf hR
    refine rS ?_
    refine AWP.cond rfl (fun hb => ?_) (fun hb => ?_)
    ·replace hR := ct hR
     refine AWP.skip ?_
     refine AWP.cond rfl (fun hb => ?_) (fun hb => ?_)
     ·refine rS ?_
      refine AWP.cond rfl (fun hb => ?_) (fun hb => ?_)
      ·replace hR := ct hR
       refine rS ?_
       refine AWP.ret ?_
       subst hR
       exact es
      ·replace hR := cf hR
       refine rS ?_
       refine AWP.ret ?_
       subst hR
       exact es
     ·exfalso; simp_all
    ·replace hR := cf hR
     refine rS ?_
     refine AWP.cond rfl (fun hb => ?_) (fun hb => ?_)
     ·replace hR := ct hR
      refine rS ?_
      refine AWP.cond rfl (fun hb => ?_) (fun hb => ?_)
      ·replace hR := ct hR
       refine rS ?_
       refine AWP.ret ?_
       subst hR
       exact es
      ·replace hR := cf hR
       refine rS ?_
       refine AWP.ret ?_
       subst hR
       exact es
     ·replace hR := cf hR
      refine rS ?_
      refine AWP.cond rfl (fun hb => ?_) (fun hb => ?_)
      ·replace hR := ct hR
       refine rS ?_
       refine AWP.ret ?_
       subst hR
       exact es
      ·replace hR := cf hR
       refine rS ?_
       refine AWP.ret ?_
       subst hR
       exact es
end N190
def D_zze : DF
 | [x0] => some (.bool (zze (rdP dCharacter x0)), false, [wP eCharacter dCharacter x0])
 | _ => none
theorem D_zze_ok : OkD Tryz.prog 190 D_zze := by unfold D_zze; exact dk N190.den
end Go.Ab

namespace Go.Ab
open Go Go.Proofs
def zrb_b1 (a0 : Int) (i1 : Nat) (s1 : List Int) : Except ((List Int)) (List Int) :=
 (bif ((((([[46, 45], [45, 46, 46, 46], [45, 46, 45, 46], [45, 46, 46], [46], [46, 46, 45, 46], [45, 45, 46], [46, 46, 46, 46], [46, 46], [46, 45, 45, 45], [45, 46, 45], [46, 45, 46, 46], [45, 45], [45, 46], [45, 45, 45], [46, 45, 45, 46], [45, 45, 46, 45], [46, 45, 46], [46, 46, 46], [45], [46, 46, 45], [46, 46, 46, 45], [46, 45, 45], [45, 46, 46, 45], [45, 46, 45, 45], [45, 45, 46, 46]] : List (List UInt8)).getD ((IntKind.wrap .u8 (a0 - 65)).toNat) default).getD i1 0).toNat : Int) == 46) then .ok (s1 ++ ([5] : List Int)) else .ok (s1 ++ ([15] : List Int)))
def zrb (a0 : Int) : (List Int) :=
 (match loopR (zrb_b1 a0) (((([[46, 45], [45, 46, 46, 46], [45, 46, 45, 46], [45, 46, 46], [46], [46, 46, 45, 46], [45, 45, 46], [46, 46, 46, 46], [46, 46], [46, 45, 45, 45], [45, 46, 45], [46, 45, 46, 46], [45, 45], [45, 46], [45, 45, 45], [46, 45, 45, 46], [45, 45, 46, 45], [46, 45, 46], [46, 46, 46], [45], [46, 46, 45], [46, 46, 46, 45], [46, 45, 45], [45, 46, 46, 45], [45, 46, 45, 45], [45, 45, 46, 46]] : List (List UInt8)).getD ((IntKind.wrap .u8 (a0 - 65)).toNat) default).length) - 0) 0 ([] : List Int) with | .error e => e | .ok s1 => s1)
namespace N248
theorem DD : DOk Tryz.prog (Go.Ab.DD []) := DD_nil _
theorem lx {p : Prop} (h : p := by (exact lxx); first | done | fail) : p := h
theorem den (a0 : Int) (hp0 : 65 ≤ a0) (hp1 : a0 ≤ 90) : Den Tryz.prog 248 [.int .u8 a0] (ownL 2 1 eIi64 (zrb a0)) := by
 generalize hR : zrb a0 = r
 unfold zrb at hR
 refine di Tryz.func248 Tryz.ntmps248 Tryz.results248 ?_
 intro c hL hc hk
 clear hL
 simp only [pars, Nat.zero_add]
 have hs9 := code_len (IntKind.wrap .u8 (a0 - 65)).toNat
 have hw9 : IntKind.wrap .u8 (a0 - 65) = a0 - 65 := u8_wrap _ (by omega) (by omega)
 iterate 5 refine rS ?_
 refine AWP.block ?_
 generalize hz1 : loopR (zrb_b1 a0) (((([[46, 45], [45, 46, 46, 46], [45, 46, 45, 46], [45, 46, 46], [46], [46, 46, 45, 46], [45, 45, 46], [46, 46, 46, 46], [46, 46], [46, 45, 45, 45], [45, 46, 45], [46, 45, 46, 46], [45, 45], [45, 46], [45, 45, 45], [46, 45, 45, 46], [45, 45, 46, 45], [46, 45, 46], [46, 46, 46], [45], [46, 46, 45], [46, 46, 46, 45], [46, 45, 45], [45, 46, 46, 45], [45, 46, 45, 45], [45, 45, 46, 46]] : List (List UInt8)).getD ((IntKind.wrap .u8 (a0 - 65)).toNat) default).length) - 0) 0 ([] : List Int) = z1 at hR
 refine AWP.range (zrb_b1 a0) (fun i1 s1 => ⟨[(4, .str (([[46, 45], [45, 46, 46, 46], [45, 46, 45, 46], [45, 46, 46], [46], [46, 46, 45, 46], [45, 45, 46], [46, 46, 46, 46], [46, 46], [46, 45, 45, 45], [45, 46, 45], [46, 45, 46, 46], [45, 45], [45, 46], [45, 45, 45], [46, 45, 45, 46], [45, 45, 46, 45], [46, 45, 46], [46, 46, 46], [45], [46, 46, 45], [46, 46, 46, 45], [46, 45, 45], [45, 46, 46, 45], [45, 46, 45, 45], [45, 45, 46, 46]] : List (List UInt8)).getD ((IntKind.wrap .u8 (a0 - 65)).toNat) default)), (5, .ref 0 1 0 s1.length), (6, .int .i64 (i1 : Int))], [.arr 2 1 s1.length (fun j => eIi64 (s1.getD j default))]⟩) (fun i1 s1 => s1.length ≤ ([] : List Int).length + 1 * i1 ∧ s1.length ≤ i1) (((([[46, 45], [45, 46, 46, 46], [45, 46, 45, 46], [45, 46, 46], [46], [46, 46, 45, 46], [45, 45, 46], [46, 46, 46, 46], [46, 46], [46, 45, 45, 45], [45, 46, 45], [46, 45, 46, 46], [45, 45], [45, 46], [45, 45, 45], [46, 45, 45, 46], [45, 45, 46, 45], [46, 45, 46], [46, 46, 46], [45], [46, 46, 45], [46, 46, 46, 45], [46, 45, 45], [45, 46, 46, 45], [45, 46, 45, 45], [45, 45, 46, 46]] : List (List UInt8)).getD ((IntKind.wrap .u8 (a0 - 65)).toNat) default).length)) 0 ([] : List Int) [1] hz1 ot wt sm ?_
 clear hz1
 intro i1 s1 hi1 hW1 hz1
 refine rS ?_
 refine AWP.cond rfl (fun hb => ?_) (fun hb => ?_)
 ·have hlt1 : i1 < ((([[46, 45], [45, 46, 46, 46], [45, 46, 45, 46], [45, 46, 46], [46], [46, 46, 45, 46], [45, 45, 46], [46, 46, 46, 46], [46, 46], [46, 45, 45, 45], [45, 46, 45], [46, 45, 46, 46], [45, 45], [45, 46], [45, 45, 45], [46, 45, 45, 46], [45, 45, 46, 45], [46, 45, 46], [46, 46, 46], [45], [46, 46, 45], [46, 46, 46, 45], [46, 45, 45], [45, 46, 46, 45], [45, 46, 45, 45], [45, 45, 46, 46]] : List (List UInt8)).getD ((IntKind.wrap .u8 (a0 - 65)).toNat) default).length) := ot
  rw [loopR_lt hlt1] at hz1; simp only [zrb_b1] at hz1
  refine rS ?_
  refine AWP.cond rfl (fun hb => ?_) (fun hb => ?_)
  ·simp only [hb, cond_true] at hz1
   iterate 2 refine rS ?_
   exact ⟨_, [2], hlt1, wt, hz1, sm⟩
  ·simp only [hb, cond_false] at hz1
   iterate 2 refine rS ?_
   exact ⟨_, [2], hlt1, wt, hz1, sm⟩
 ·obtain rfl : i1 = ((([[46, 45], [45, 46, 46, 46], [45, 46, 45, 46], [45, 46, 46], [46], [46, 46, 45, 46], [45, 45, 46], [46, 46, 46, 46], [46, 46], [46, 45, 45, 45], [45, 46, 45], [46, 45, 46, 46], [45, 45], [45, 46], [45, 45, 45], [46, 45, 45, 46], [45, 45, 46, 45], [46, 45, 46], [46, 46, 46], [45], [46, 46, 45], [46, 46, 46, 45], [46, 45, 45], [45, 46, 46, 45], [45, 46, 45, 45], [45, 45, 46, 46]] : List (List UInt8)).getD ((IntKind.wrap .u8 (a0 - 65)).toNat) default).length) := ot
  rw [loopR_ge (Nat.le_refl _)] at hz1; subst hz1; dsimp only at hR
  refine AWP.exit ?_; refine exitTo_here ?_
  refine rS ?_
  refine AWP.ret ?_
  subst hR
  exact es
end N248
def D_zrb : DF
 | [x0] => some (ownL 2 1 eIi64 (zrb (rdI x0)), false, [wI .u8 x0, 65 ≤ (rdI x0), (rdI x0) ≤ 90])
 | _ => none
theorem D_zrb_ok : OkD Tryz.prog 248 D_zrb := by unfold D_zrb; exact dk N248.den
end Go.Ab

namespace Go.Ab
open Go Go.Proofs
theorem l05Morse_eq (a : Int) : zrb a = (codesL.getD (IntKind.wrap .u8 (a - 65)).toNat default).map (fun c => if c = 46 then (5 : Int) else 15) := by
 have h := loopR_app (zrb_b1 a) (fun j => [if ((codesL.getD (IntKind.wrap .u8 (a - 65)).toNat default).getD j 0) = 46 then (5 : Int) else 15]) (codesL.getD (IntKind.wrap .u8 (a - 65)).toNat default).length 0 [] (fun j s _ _ => by
  show (bif ((((codesL.getD (IntKind.wrap .u8 (a - 65)).toNat default).getD j 0).toNat : Int) == 46) then (.ok (s ++ [5]) : Except (List Int) (List Int)) else .ok (s ++ [15])) = _
  generalize (codesL.getD (IntKind.wrap .u8 (a - 65)).toNat default).getD j 0 = c
  by_cases hc : c = 46
  ·subst hc; rfl
  ·have : ((c.toNat : Int) == 46) = false := by
    rw [beq_eq_false_iff_ne]
    intro h
    exact hc (UInt8.toNat_inj.1 (by show c.toNat = 46; omega))
   rw [this, if_neg hc]; rfl)
 have e : zrb a = (match loopR (zrb_b1 a) (codesL.getD (IntKind.wrap .u8 (a - 65)).toNat default).length 0 ([] : List Int) with | .error e => e | .ok s1 => s1) := rfl
 rw [e, h]
 simp only [List.nil_append]
 exact flat_list _ 0 (fun c => if c = 46 then (5 : Int) else 15)
theorem morse_len (a : Int) : (zrb a).length ≤ 4 := by
 rw [l05Morse_eq, List.length_map]
 exact codeL_len _
end Go.Ab

namespace Go.Ab
open Go Go.Proofs
def zaf (a0 : Character) : Bool :=
 ((a0.Kind == 1) || (((a0.Kind == 6) || (a0.Kind == 7)) && ((a0.Group.length : Int) == 0)))
namespace N191
theorem DD : DOk Tryz.prog (Go.Ab.DD []) := DD_nil _
theorem den (a0 : Character)  : Den Tryz.prog 191 [.ep (eCharacter a0)] (.bool (zaf a0)) := by
 generalize hR : zaf a0 = r
 unfold zaf at hR
 refine di Tryz.func191 Tryz.ntmps191 Tryz.results191 ?_
 intro c hL hc hk
 obtain ⟨hL0, _⟩ := hL
 have hw0 : bwCharacter a0 := Character_lens a0 hL0
 clear hL0
 simp only [pars, Nat.zero_add]
 iterate 2 refine rS ?_
 refine AWP.ret ?_
 subst hR
 exact es
end N191
def D_zaf : DF
 | [x0] => some (.bool (zaf (rdP dCharacter x0)), false, [wP eCharacter dCharacter x0])
 | _ => none
theorem D_zaf_ok : OkD Tryz.prog 191 D_zaf := by unfold D_zaf; exact dk N191.den
end Go.Ab

namespace Go.Ab
open Go Go.Proofs
def zse_b1 (a0 : (List Int)) (i1 : Nat) (s1 : Int) : Except (Int) (Int) :=
 .ok (IntKind.wrap .i64 (s1 + (a0.getD i1 default)))
def zse (a0 : (List Int)) : Int :=
 (match loopR (zse_b1 a0) (a0.length - 0) 0 0 with | .error e => e | .ok s1 => s1)
namespace N227
theorem DD : DOk Tryz.prog (Go.Ab.DD []) := DD_nil _
theorem den (a0 : (List Int))  : Den Tryz.prog 227 [encL 1 eIi64 a0] (.int .i64 (zse a0)) := by
 generalize hR : zse a0 = r
 unfold zse at hR
 refine di Tryz.func227 Tryz.ntmps227 Tryz.results227 ?_
 intro c hL hc hk
 obtain ⟨hL0, _⟩ := hL
 have hw0 : a0.length < 9223372036854775808 := Nat.lt_succ_of_le (lens_encL hL0).1
 clear hL0
 simp only [pars, Nat.zero_add]
 iterate 3 refine rS ?_
 refine AWP.block ?_
 generalize hz1 : loopR (zse_b1 a0) (a0.length - 0) 0 0 = z1 at hR
 refine AWP.range (zse_b1 a0) (fun i1 s1 => ⟨[(0, encL 1 eIi64 a0), (3, .int .i64 s1), (4, .int .i64 (i1 : Int))], []⟩) (fun i1 s1 => True) (a0.length) 0 0 [] hz1 ot wt sm ?_
 clear hz1
 intro i1 s1 hi1 hW1 hz1
 refine rS ?_
 refine AWP.cond rfl (fun hb => ?_) (fun hb => ?_)
 ·have hlt1 : i1 < a0.length := ot
  rw [loopR_lt hlt1] at hz1; simp only [zse_b1] at hz1
  iterate 2 refine rS ?_
  exact ⟨_, [], hlt1, wt, hz1, sm⟩
 ·obtain rfl : i1 = a0.length := ot
  rw [loopR_ge (Nat.le_refl _)] at hz1; subst hz1; dsimp only at hR
  refine AWP.exit ?_; refine exitTo_here ?_
  refine rS ?_
  refine AWP.ret ?_
  subst hR
  exact es
end N227
def D_zse : DF
 | [x0] => some (.int .i64 (zse (rdL dIi64 x0)), false, [wL 1 eIi64 dIi64 x0])
 | _ => none
theorem D_zse_ok : OkD Tryz.prog 227 D_zse := by unfold D_zse; exact dk N227.den
end Go.Ab

namespace Go.Ab
open Go Go.Proofs
def zkd (a0 : Int) : Int :=
 (bif (a0 == 2) then 10 else (bif (a0 == 4) then 15 else (bif (a0 == 5) then 20 else (bif (a0 == 7) then 3 else 5))))
namespace N249
theorem DD : DOk Tryz.prog (Go.Ab.DD []) := DD_nil _
theorem den (a0 : Int)  : Den Tryz.prog 249 [.int .i64 a0] (.int .i64 (zkd a0)) := by
 generalize hR : zkd a0 = r
 unfold zkd at hR
 refine di Tryz.func249 Tryz.ntmps249 Tryz.results249 ?_
 intro c hL hc hk
 clear hL
 simp only [pars, Nat.zero_add]
 iterate 3 refine rS ?_
 refine AWP.cond rfl (fun hb => ?_) (fun hb => ?_)
 ·replace hR := ct hR
  refine rS ?_
  refine AWP.ret ?_
  subst hR
  exact es
 ·replace hR := cf hR
  refine rS ?_
  refine AWP.cond rfl (fun hb => ?_) (fun hb => ?_)
  ·replace hR := ct hR
   refine rS ?_
   refine AWP.ret ?_
   subst hR
   exact es
  ·replace hR := cf hR
   refine rS ?_
   refine AWP.cond rfl (fun hb => ?_) (fun hb => ?_)
   ·replace hR := ct hR
    refine rS ?_
    refine AWP.ret ?_
    subst hR
    exact es
   ·replace hR := cf hR
    refine rS ?_
    refine AWP.cond rfl (fun hb => ?_) (fun hb => ?_)
    ·replace hR := ct hR
     refine rS ?_
     refine AWP.ret ?_
     subst hR
     exact es
    ·replace hR := cf hR
     refine rS ?_
     refine AWP.ret ?_
     subst hR
     exact es
end N249
def D_zkd : DF
 | [x0] => some (.int .i64 (zkd (rdI x0)), false, [wI .i64 x0])
 | _ => none
theorem D_zkd_ok : OkD Tryz.prog 249 D_zkd := by unfold D_zkd; exact dk N249.den
end Go.Ab

namespace Go.Ab
open Go Go.Proofs
def zte (a0 : Int) : Int :=
 (bif (a0 == 2) then 10 else (bif (a0 == 5) then 20 else (bif (a0 == 7) then 2 else 5)))
namespace N250
theorem DD : DOk Tryz.prog (Go.Ab.DD []) := DD_nil _
theorem den (a0 : Int)  : Den Tryz.prog 250 [.int .i64 a0] (.int .i64 (zte a0)) := by
 generalize hR : zte a0 = r
 unfold zte at hR
 refine di Tryz.func250 Tryz.ntmps250 Tryz.results250 ?_
 intro c hL hc hk
 clear hL
 simp only [pars, Nat.zero_add]
 iterate 3 refine rS ?_
 refine AWP.cond rfl (fun hb => ?_) (fun hb => ?_)
 ·replace hR := ct hR
  refine rS ?_
  refine AWP.ret ?_
  subst hR
  exact es
 ·replace hR := cf hR
  refine rS ?_
  refine AWP.cond rfl (fun hb => ?_) (fun hb => ?_)
  ·replace hR := ct hR
   refine rS ?_
   refine AWP.ret ?_
   subst hR
   exact es
  ·replace hR := cf hR
   refine rS ?_
   refine AWP.cond rfl (fun hb => ?_) (fun hb => ?_)
   ·replace hR := ct hR
    refine rS ?_
    refine AWP.ret ?_
    subst hR
    exact es
   ·replace hR := cf hR
    refine rS ?_
    refine AWP.ret ?_
    subst hR
    exact es
end N250
def D_zte : DF
 | [x0] => some (.int .i64 (zte (rdI x0)), false, [wI .i64 x0])
 | _ => none
theorem D_zte_ok : OkD Tryz.prog 250 D_zte := by unfold D_zte; exact dk N250.den
end Go.Ab

namespace Go.Ab
open Go Go.Proofs
def zp_b1 (a0 : Character) (i1 : Nat) (s1 : List Int) : Except ((List Int)) (List Int) :=
 (bif decide (0 < (i1 : Int)) then .ok ((s1 ++ ([5] : List Int)) ++ ([((zrb ((a0.Letter.getD 0 0).toNat : Int)).getD i1 default)] : List Int)) else .ok (s1 ++ ([((zrb ((a0.Letter.getD 0 0).toNat : Int)).getD i1 default)] : List Int)))
def zp_b3 (a0 : Character) (i2 : Nat) (s2 : List Int) (i3 : Nat) (s3 : List Int) : Except ((List Int)) (List Int) :=
 (bif decide (0 < (i3 : Int)) then .ok ((s3 ++ ([(zkd a0.Kind)] : List Int)) ++ ([(zte a0.Kind)] : List Int)) else (bif decide (0 < (i2 : Int)) then .ok ((s3 ++ ([IntKind.wrap .i64 ((zkd a0.Kind) + 20)] : List Int)) ++ ([(zte a0.Kind)] : List Int)) else .ok (s3 ++ ([(zte a0.Kind)] : List Int))))
def zp_b2 (a0 : Character) (i2 : Nat) (s2 : List Int) : Except ((List Int)) (List Int) :=
 (match loopR (zp_b3 a0 i2 s2) (((([1] : List Int).getD i2 default)).toNat - 0) 0 s2 with | .error e => .error e | .ok s3 => .ok s3)
def zp_b5 (a0 : Character) (i4 : Nat) (s4 : List Int) (i5 : Nat) (s5 : List Int) : Except ((List Int)) (List Int) :=
 (bif decide (0 < (i5 : Int)) then .ok ((s5 ++ ([(zkd a0.Kind)] : List Int)) ++ ([(zte a0.Kind)] : List Int)) else (bif decide (0 < (i4 : Int)) then .ok ((s5 ++ ([IntKind.wrap .i64 ((zkd a0.Kind) + 20)] : List Int)) ++ ([(zte a0.Kind)] : List Int)) else .ok (s5 ++ ([(zte a0.Kind)] : List Int))))
def zp_b4 (a0 : Character) (i4 : Nat) (s4 : List Int) : Except ((List Int)) (List Int) :=
 (match loopR (zp_b5 a0 i4 s4) (((a0.Group.getD i4 default)).toNat - 0) 0 s4 with | .error e => .error e | .ok s5 => .ok s5)
def zp (a0 : Character) : (List Int) :=
 (bif (a0.Kind == 8) then (match loopR (zp_b1 a0) (((zrb ((a0.Letter.getD 0 0).toNat : Int)).length) - 0) 0 ([] : List Int) with | .error e => e | .ok s1 => s1) else (bif ((a0.Group.length : Int) == 0) then (match loopR (zp_b2 a0) (1 - 0) 0 ([] : List Int) with | .error e => e | .ok s2 => (bif (a0.Letter == [76]) then s2 ++ ([(zkd a0.Kind), 20] : List Int) else s2)) else (match loopR (zp_b4 a0) (a0.Group.length - 0) 0 ([] : List Int) with | .error e => e | .ok s4 => (bif (a0.Letter == [76]) then s4 ++ ([(zkd a0.Kind), 20] : List Int) else s4))))
namespace N228
theorem DD : DOk Tryz.prog (Go.Ab.DD [(248, dP D_zrb), (249, dP D_zkd), (250, dP D_zte)]) := DD_cons D_zrb_ok.e <| DD_cons D_zkd_ok.e <| DD_cons D_zte_ok.e <| DD_nil _
theorem dn : type_of% (And.intro @D_zrb.eq_1 <| And.intro @D_zkd.eq_1 <| @D_zte.eq_1) := by and_intros <;> intros <;> rfl
theorem o2 {p : Prop} (h : p := by (first | (and_intros <;> first | decide | omega | (simp; (first | done | fail)) | (rw [IntKind.wrap_i64]; have := hg9 i4; omega) | (rw [IntKind.wrap_i64]; have := hg1 i2; omega) | (rw [IntKind.wrap_i64]; omega) | (intro i hi; exact app1_get _ _ i hi) | (intro i hi; exact app11_get _ _ _ i hi))); first | done | fail) : p := h
theorem o3 {p : Prop} (h : p := by (first | (refine ⟨⟨Nat.le_refl _, fun i hi => app2_pure _ _ _ i hi⟩, .inl fun i hi => by rw [app2_get _ _ _ i hi]; simp [NoBorL, NoBor], by simp, fun i hi => by rw [app2_get _ _ _ i hi]; exact simOL_refl _⟩)); first | done | fail) : p := h
theorem lx {p : Prop} (h : p := by (exact lxx); first | done | fail) : p := h
set_option maxHeartbeats 1000000 in
set_option maxRecDepth 20000 in
theorem den (a0 : Character) (hb0 : bdCharacter a0) (hp0 : a0.Group.length ≤ 4) (hp1 : ∀ v ∈ a0.Group, v ≤ 9) (hp2 : a0.Kind = 8 → a0.Letter.length = 1 ∧ 65 ≤ (a0.Letter.getD 0 0).toNat ∧ (a0.Letter.getD 0 0).toNat ≤ 90) : Den Tryz.prog 228 [.ep (eCharacter a0)] (ownL 2 1 eIi64 (zp a0)) := by
 generalize hR : zp a0 = r
 unfold zp at hR
 refine di Tryz.func228 Tryz.ntmps228 Tryz.results228 ?_
 intro c hL hc hk
 obtain ⟨hL0, _⟩ := hL
 have hw0 : bwCharacter a0 := Character_lens a0 hL0
 clear hL0
 simp only [pars, Nat.zero_add]
 have hg9 : ∀ i : Nat, a0.Group.getD i default ≤ 9 := fun i => getD_le hp1 i
 have hs9 := morse_len ((a0.Letter.getD 0 0).toNat : Int)
 have hg1 : ∀ i : Nat, ([1] : List Int).getD i default ≤ 9 := fun i => getD_le (by simp) i
 iterate 3 refine rS ?_
 refine AWP.cond rfl (fun hb => ?_) (fun hb => ?_)
 ·replace hR := ct hR
  iterate 2 refine rS ?_
  refine AWP.block ?_
  generalize hz1 : loopR (zp_b1 a0) (((zrb ((a0.Letter.getD 0 0).toNat : Int)).length) - 0) 0 ([] : List Int) = z1 at hR
  refine AWP.range (zp_b1 a0) (fun i1 s1 => ⟨[(3, .ref 0 1 0 s1.length), (4, .ref 1 1 0 ((zrb ((a0.Letter.getD 0 0).toNat : Int)).length)), (5, .int .i64 (i1 : Int))], [.arr 2 1 s1.length (fun j => eIi64 (s1.getD j default)), .arr 2 1 (zrb ((a0.Letter.getD 0 0).toNat : Int)).length (fun j => eIi64 ((zrb ((a0.Letter.getD 0 0).toNat : Int)).getD j default))]⟩) (fun i1 s1 => s1.length ≤ ([] : List Int).length + 2 * i1 ∧ s1.length ≤ 2 * i1) (((zrb ((a0.Letter.getD 0 0).toNat : Int)).length)) 0 ([] : List Int) [0, 1] hz1 ot wt sm ?_
  clear hz1
  intro i1 s1 hi1 hW1 hz1
  refine rS ?_
  refine AWP.cond rfl (fun hb => ?_) (fun hb => ?_)
  ·have hlt1 : i1 < ((zrb ((a0.Letter.getD 0 0).toNat : Int)).length) := ot
   rw [loopR_lt hlt1] at hz1; simp only [zp_b1] at hz1
   refine rS ?_
   refine AWP.cond rfl (fun hb => ?_) (fun hb => ?_)
   ·simp only [hb, cond_true] at hz1
    iterate 3 refine rS ?_
    exact ⟨_, [5, 1], hlt1, wt, hz1, sm⟩
   ·simp only [hb, cond_false] at hz1
    iterate 2 refine rS ?_
    exact ⟨_, [3, 1], hlt1, wt, hz1, sm⟩
  ·obtain rfl : i1 = ((zrb ((a0.Letter.getD 0 0).toNat : Int)).length) := ot
   rw [loopR_ge (Nat.le_refl _)] at hz1; subst hz1; dsimp only at hR
   refine AWP.exit ?_; refine exitTo_here ?_
   refine rS ?_
   refine AWP.ret ?_
   subst hR
   exact es
 ·replace hR := cf hR
  iterate 2 refine rS ?_
  refine AWP.cond rfl (fun hb => ?_) (fun hb => ?_)
  ·replace hR := ct hR
   iterate 2 refine rS ?_
   refine AWP.block ?_
   generalize hz2 : loopR (zp_b2 a0) (1 - 0) 0 ([] : List Int) = z2 at hR
   refine AWP.range (zp_b2 a0) (fun i2 s2 => ⟨[(0, .ep (eCharacter a0)), (3, .ref 0 1 0 s2.length), (6, .ref 1 1 0 1), (7, .int .i64 (i2 : Int))], [.arr 2 1 s2.length (fun j => eIi64 (s2.getD j default)), .arr 2 1 ([1] : List Int).length (fun j => eIi64 (([1] : List Int).getD j default))]⟩) (fun i2 s2 => s2.length ≤ 18 * i2) (1) 0 ([] : List Int) [0, 1] hz2 ot wt sm ?_
   clear hz2
   intro i2 s2 hi2 hW2 hz2
   refine rS ?_
   refine AWP.cond rfl (fun hb => ?_) (fun hb => ?_)
   ·have hlt2 : i2 < 1 := ot
    rw [loopR_lt hlt2] at hz2; simp only [zp_b2] at hz2
    refine rS ?_
    refine AWP.block ?_
    generalize hz3 : loopR (zp_b3 a0 i2 s2) (((([1] : List Int).getD i2 default)).toNat - 0) 0 s2 = z3 at hz2
    refine AWP.range (zp_b3 a0 i2 s2) (fun i3 s3 => ⟨[(0, .ep (eCharacter a0)), (3, .ref 0 1 0 s3.length), (6, .ref 1 1 0 1), (7, .int .i64 (i2 : Int)), (8, .int .i64 (i3 : Int))], [.arr 2 1 s3.length (fun j => eIi64 (s3.getD j default)), .arr 2 1 ([1] : List Int).length (fun j => eIi64 (([1] : List Int).getD j default))]⟩) (fun i3 s3 => s3.length ≤ s2.length + 2 * i3 ∧ s3.length ≤ 18 * i2 + 2 * i3) (((([1] : List Int).getD i2 default)).toNat) 0 s2 [0, 1] hz3 ot wt sm ?_
    clear hz3
    intro i3 s3 hi3 hW3 hz3
    refine rS ?_
    refine AWP.cond rfl (fun hb => ?_) (fun hb => ?_)
    ·have hlt3 : i3 < ((([1] : List Int).getD i2 default)).toNat := ot
     rw [loopR_lt hlt3] at hz3; simp only [zp_b3] at hz3
     refine rS ?_
     refine AWP.cond rfl (fun hb => ?_) (fun hb => ?_)
     ·simp only [hb, cond_true] at hz3
      iterate 3 refine rS ?_
      exact ⟨_, [5, 1], hlt3, wt, hz3, sm⟩
     ·simp only [hb, cond_false] at hz3
      refine rS ?_
      refine AWP.cond rfl (fun hb => ?_) (fun hb => ?_)
      ·simp only [hb, cond_true] at hz3
       iterate 3 refine rS ?_
       exact ⟨_, [5, 1], hlt3, wt, hz3, sm⟩
      ·simp only [hb, cond_false] at hz3
       iterate 2 refine rS ?_
       exact ⟨_, [3, 1], hlt3, wt, hz3, sm⟩
    ·obtain rfl : i3 = ((([1] : List Int).getD i2 default)).toNat := ot
     rw [loopR_ge (Nat.le_refl _)] at hz3; subst hz3; dsimp only at hz2
     refine AWP.exit ?_; refine exitTo_here ?_
     refine rS ?_
     exact ⟨_, [0, 1], hlt2, by (have h9 := hg1 i2; omega), hz2, sm⟩
   ·obtain rfl : i2 = 1 := ot
    rw [loopR_ge (Nat.le_refl _)] at hz2; subst hz2; dsimp only at hR
    refine AWP.exit ?_; refine exitTo_here ?_
    refine rS ?_
    refine AWP.cond rfl (fun hb => ?_) (fun hb => ?_)
    ·replace hR := ct hR
     iterate 2 refine rS ?_
     refine AWP.ret ?_
     subst hR
     exact es
    ·replace hR := cf hR
     refine rS ?_
     refine AWP.ret ?_
     subst hR
     exact es
  ·replace hR := cf hR
   refine rS ?_
   refine AWP.block ?_
   refine AWP.lensS 6 rfl (fun hLn4 => ?_)
   generalize hz4 : loopR (zp_b4 a0) (a0.Group.length - 0) 0 ([] : List Int) = z4 at hR
   refine AWP.range (zp_b4 a0) (fun i4 s4 => ⟨[(0, .ep (eCharacter a0)), (3, .ref 0 1 0 s4.length), (6, encL 1 eIi64 a0.Group), (7, .int .i64 (i4 : Int))], [.arr 2 1 s4.length (fun j => eIi64 (s4.getD j default))]⟩) (fun i4 s4 => s4.length ≤ 18 * i4) (a0.Group.length) 0 ([] : List Int) [0] hz4 ot wt sm ?_
   clear hz4
   intro i4 s4 hi4 hW4 hz4
   refine rS ?_
   refine AWP.cond rfl (fun hb => ?_) (fun hb => ?_)
   ·have hlt4 : i4 < a0.Group.length := ot
    rw [loopR_lt hlt4] at hz4; simp only [zp_b4] at hz4
    refine rS ?_
    refine AWP.block ?_
    generalize hz5 : loopR (zp_b5 a0 i4 s4) (((a0.Group.getD i4 default)).toNat - 0) 0 s4 = z5 at hz4
    refine AWP.range (zp_b5 a0 i4 s4) (fun i5 s5 => ⟨[(0, .ep (eCharacter a0)), (3, .ref 0 1 0 s5.length), (6, encL 1 eIi64 a0.Group), (7, .int .i64 (i4 : Int)), (8, .int .i64 (i5 : Int))], [.arr 2 1 s5.length (fun j => eIi64 (s5.getD j default))]⟩) (fun i5 s5 => s5.length ≤ s4.length + 2 * i5 ∧ s5.length ≤ 18 * i4 + 2 * i5) (((a0.Group.getD i4 default)).toNat) 0 s4 [0] hz5 ot wt sm ?_
    clear hz5
    intro i5 s5 hi5 hW5 hz5
    refine rS ?_
    refine AWP.cond rfl (fun hb => ?_) (fun hb => ?_)
    ·have hlt5 : i5 < ((a0.Group.getD i4 default)).toNat := ot
     rw [loopR_lt hlt5] at hz5; simp only [zp_b5] at hz5
     refine rS ?_
     refine AWP.cond rfl (fun hb => ?_) (fun hb => ?_)
     ·simp only [hb, cond_true] at hz5
      iterate 3 refine rS ?_
      exact ⟨_, [4], hlt5, wt, hz5, sm⟩
     ·simp only [hb, cond_false] at hz5
      refine rS ?_
      refine AWP.cond rfl (fun hb => ?_) (fun hb => ?_)
      ·simp only [hb, cond_true] at hz5
       iterate 3 refine rS ?_
       exact ⟨_, [4], hlt5, wt, hz5, sm⟩
      ·simp only [hb, cond_false] at hz5
       iterate 2 refine rS ?_
       exact ⟨_, [2], hlt5, wt, hz5, sm⟩
    ·obtain rfl : i5 = ((a0.Group.getD i4 default)).toNat := ot
     rw [loopR_ge (Nat.le_refl _)] at hz5; subst hz5; dsimp only at hz4
     refine AWP.exit ?_; refine exitTo_here ?_
     refine rS ?_
     exact ⟨_, [0], hlt4, by (have h9 := hg9 i4; omega), hz4, sm⟩
   ·obtain rfl : i4 = a0.Group.length := ot
    rw [loopR_ge (Nat.le_refl _)] at hz4; subst hz4; dsimp only at hR
    refine AWP.exit ?_; refine exitTo_here ?_
    refine rS ?_
    refine AWP.cond rfl (fun hb => ?_) (fun hb => ?_)
    ·replace hR := ct hR
     iterate 2 refine rS ?_
     refine AWP.ret ?_
     subst hR
     exact es
    ·replace hR := cf hR
     refine rS ?_
     refine AWP.ret ?_
     subst hR
     exact es
end N228
def D_zp : DF
 | [x0] => some (ownL 2 1 eIi64 (zp (rdP dCharacter x0)), false, [wP eCharacter dCharacter x0, bdCharacter (rdP dCharacter x0), (rdP dCharacter x0).Group.length ≤ 4, ∀ v ∈ (rdP dCharacter x0).Group, v ≤ 9, (rdP dCharacter x0).Kind = 8 → (rdP dCharacter x0).Letter.length = 1 ∧ 65 ≤ ((rdP dCharacter x0).Letter.getD 0 0).toNat ∧ ((rdP dCharacter x0).Letter.getD 0 0).toNat ≤ 90])
 | _ => none
theorem D_zp_ok : OkD Tryz.prog 228 D_zp := by unfold D_zp; exact dk N228.den
end Go.Ab

namespace Go.Ab
open Go Go.Proofs
def zdh (a0 : Character) : Int :=
 (bif (a0.Kind == 6) then 20 else (bif (a0.Kind == 7) then 10 else (bif (a0.Kind == 8) then 30 else (bif decide (1 < (a0.Group.length : Int)) then IntKind.wrap .i64 ((IntKind.wrap .i64 ((zkd a0.Kind) + 5)) + 20) else IntKind.wrap .i64 ((zkd a0.Kind) + 5)))))
namespace N229
theorem DD : DOk Tryz.prog (Go.Ab.DD [(249, dP D_zkd)]) := DD_cons D_zkd_ok.e <| DD_nil _
theorem dn : type_of% (@D_zkd.eq_1) := by and_intros <;> intros <;> rfl
theorem den (a0 : Character)  : Den Tryz.prog 229 [.ep (eCharacter a0)] (.int .i64 (zdh a0)) := by
 generalize hR : zdh a0 = r
 unfold zdh at hR
 refine di Tryz.func229 Tryz.ntmps229 Tryz.results229 ?_
 intro c hL hc hk
 obtain ⟨hL0, _⟩ := hL
 have hw0 : bwCharacter a0 := Character_lens a0 hL0
 clear hL0
 simp only [pars, Nat.zero_add]
 iterate 3 refine rS ?_
 refine AWP.cond rfl (fun hb => ?_) (fun hb => ?_)
 ·replace hR := ct hR
  refine rS ?_
  refine AWP.ret ?_
  subst hR
  exact es
 ·replace hR := cf hR
  refine rS ?_
  refine AWP.cond rfl (fun hb => ?_) (fun hb => ?_)
  ·replace hR := ct hR
   refine rS ?_
   refine AWP.ret ?_
   subst hR
   exact es
  ·replace hR := cf hR
   refine rS ?_
   refine AWP.cond rfl (fun hb => ?_) (fun hb => ?_)
   ·replace hR := ct hR
    refine rS ?_
    refine AWP.ret ?_
    subst hR
    exact es
   ·replace hR := cf hR
    iterate 2 refine rS ?_
    refine AWP.cond rfl (fun hb => ?_) (fun hb => ?_)
    ·replace hR := ct hR
     iterate 2 refine rS ?_
     refine AWP.ret ?_
     subst hR
     exact es
    ·replace hR := cf hR
     refine rS ?_
     refine AWP.ret ?_
     subst hR
     exact es
end N229
def D_zdh : DF
 | [x0] => some (.int .i64 (zdh (rdP dCharacter x0)), false, [wP eCharacter dCharacter x0])
 | _ => none
theorem D_zdh_ok : OkD Tryz.prog 229 D_zdh := by unfold D_zdh; exact dk N229.den
end Go.Ab

namespace Go.Ab
open Go Go.Proofs
def zmg (a0 : Character) : Int :=
 (bif (zaf a0) then 0 else (bif (a0.Kind == 3) then 20 else IntKind.wrap .i64 ((zse (zp a0)) + (zdh a0))))
namespace N192
theorem DD : DOk Tryz.prog (Go.Ab.DD [(191, dP D_zaf), (227, dP D_zse), (228, dP D_zp), (229, dP D_zdh)]) := DD_cons D_zaf_ok.e <| DD_cons D_zse_ok.e <| DD_cons D_zp_ok.e <| DD_cons D_zdh_ok.e <| DD_nil _
theorem dn : type_of% (And.intro @D_zaf.eq_1 <| And.intro @D_zse.eq_1 <| And.intro @D_zp.eq_1 <| @D_zdh.eq_1) := by and_intros <;> intros <;> rfl
theorem den (a0 : Character) (hb0 : bdCharacter a0) (hp0 : a0.Group.length ≤ 4) (hp1 : ∀ v ∈ a0.Group, v ≤ 9) (hp2 : a0.Kind = 8 → a0.Letter.length = 1 ∧ 65 ≤ (a0.Letter.getD 0 0).toNat ∧ (a0.Letter.getD 0 0).toNat ≤ 90) : Den Tryz.prog 192 [.ep (eCharacter a0)] (.int .i64 (zmg a0)) := by
 generalize hR : zmg a0 = r
 unfold zmg at hR
 refine di Tryz.func192 Tryz.ntmps192 Tryz.results192 ?_
 intro c hL hc hk
 obtain ⟨hL0, _⟩ := hL
 have hw0 : bwCharacter a0 := Character_lens a0 hL0
 clear hL0
 simp only [pars, Nat.zero_add]
 iterate 2 refine rS ?_
 refine AWP.cond rfl (fun hb => ?_) (fun hb => ?_)
 ·replace hR := ct hR
  refine rS ?_
  refine AWP.ret ?_
  subst hR
  exact es
 ·replace hR := cf hR
  refine rS ?_
  refine AWP.cond rfl (fun hb => ?_) (fun hb => ?_)
  ·replace hR := ct hR
   refine rS ?_
   refine AWP.ret ?_
   subst hR
   exact es
  ·replace hR := cf hR
   refine rS ?_
   refine AWP.ret ?_
   subst hR
   exact es
end N192
def D_zmg : DF
 | [x0] => some (.int .i64 (zmg (rdP dCharacter x0)), false, [wP eCharacter dCharacter x0, bdCharacter (rdP dCharacter x0), (rdP dCharacter x0).Group.length ≤ 4, ∀ v ∈ (rdP dCharacter x0).Group, v ≤ 9, (rdP dCharacter x0).Kind = 8 → (rdP dCharacter x0).Letter.length = 1 ∧ 65 ≤ ((rdP dCharacter x0).Letter.getD 0 0).toNat ∧ ((rdP dCharacter x0).Letter.getD 0 0).toNat ≤ 90])
 | _ => none
theorem D_zmg_ok : OkD Tryz.prog 192 D_zmg := by unfold D_zmg; exact dk N192.den
end Go.Ab

namespace Go.Ab
open Go Go.Proofs
def zng (a0 : Sector) : Bool :=
 ((ze a0.From 0 359) && (ze a0.To 0 359))
namespace N230
theorem DD : DOk Tryz.prog (Go.Ab.DD [(137, dP D_ze)]) := DD_cons D_ze_ok.e <| DD_nil _
theorem dn : type_of% (@D_ze.eq_1) := by and_intros <;> intros <;> rfl
theorem ol : type_of% (@ze.eq_1) := @ze.eq_1
theorem den (a0 : Sector)  : Den Tryz.prog 230 [.ep (eSector a0)] (.bool (zng a0)) := by
 generalize hR : zng a0 = r
 unfold zng at hR
 refine di Tryz.func230 Tryz.ntmps230 Tryz.results230 ?_
 intro c hL hc hk
 obtain ⟨hL0, _⟩ := hL
 have hw0 : bwSector a0 := Sector_lens a0 hL0
 clear hL0
 simp only [pars, Nat.zero_add]
 iterate 2 refine rS ?_
 refine AWP.ret ?_
 subst hR
 exact es
end N230
def D_zng : DF
 | [x0] => some (.bool (zng (rdP dSector x0)), false, [wP eSector dSector x0])
 | _ => none
theorem D_zng_ok : OkD Tryz.prog 230 D_zng := by unfold D_zng; exact dk N230.den
end Go.Ab

namespace Go.Ab
open Go Go.Proofs
def zog (a0 : (List UInt8)) : Bool :=
 ((((a0 == [87]) || (a0 == [82])) || (a0 == [71])) || (a0 == [89]))
namespace N231
theorem DD : DOk Tryz.prog (Go.Ab.DD []) := DD_nil _
theorem den (a0 : (List UInt8))  : Den Tryz.prog 231 [.str a0] (.bool (zog a0)) := by
 generalize hR : zog a0 = r
 unfold zog at hR
 refine di Tryz.func231 Tryz.ntmps231 Tryz.results231 ?_
 intro c hL hc hk
 obtain ⟨hL0, _⟩ := hL
 have hw0 : a0.length < 9223372036854775808 := Nat.lt_succ_of_le hL0
 clear hL0
 simp only [pars, Nat.zero_add]
 iterate 2 refine rS ?_
 refine AWP.ret ?_
 subst hR
 exact es
end N231
def D_zog : DF
 | [x0] => some (.bool (zog (rdS x0)), false, [wS x0])
 | _ => none
theorem D_zog_ok : OkD Tryz.prog 231 D_zog := by unfold D_zog; exact dk N231.den
end Go.Ab

namespace Go.Ab
open Go Go.Proofs
def zje (a0 : Sector) : Bool :=
 ((zng a0) && (zog a0.Color))
namespace N193
theorem DD : DOk Tryz.prog (Go.Ab.DD [(230, dP D_zng), (231, dP D_zog)]) := DD_cons D_zng_ok.e <| DD_cons D_zog_ok.e <| DD_nil _
theorem dn : type_of% (And.intro @D_zng.eq_1 <| @D_zog.eq_1) := by and_intros <;> intros <;> rfl
theorem den (a0 : Sector)  : Den Tryz.prog 193 [.ep (eSector a0)] (.bool (zje a0)) := by
 generalize hR : zje a0 = r
 unfold zje at hR
 refine di Tryz.func193 Tryz.ntmps193 Tryz.results193 ?_
 intro c hL hc hk
 obtain ⟨hL0, _⟩ := hL
 have hw0 : bwSector a0 := Sector_lens a0 hL0
 clear hL0
 simp only [pars, Nat.zero_add]
 iterate 2 refine rS ?_
 refine AWP.ret ?_
 subst hR
 exact es
end N193
def D_zje : DF
 | [x0] => some (.bool (zje (rdP dSector x0)), false, [wP eSector dSector x0])
 | _ => none
theorem D_zje_ok : OkD Tryz.prog 193 D_zje := by unfold D_zje; exact dk N193.den
end Go.Ab

namespace Go.Ab
open Go Go.Proofs
def zpg (a0 : Sector) : Int :=
 (bif (((IntKind.wrap .i64 ((IntKind.wrap .i64 (a0.To - a0.From)) + 360)).tmod 360) == 0) then 360 else (IntKind.wrap .i64 ((IntKind.wrap .i64 (a0.To - a0.From)) + 360)).tmod 360)
namespace N194
theorem DD : DOk Tryz.prog (Go.Ab.DD []) := DD_nil _
theorem den (a0 : Sector)  : Den Tryz.prog 194 [.ep (eSector a0)] (.int .i64 (zpg a0)) := by
 generalize hR : zpg a0 = r
 unfold zpg at hR
 refine di Tryz.func194 Tryz.ntmps194 Tryz.results194 ?_
 intro c hL hc hk
 obtain ⟨hL0, _⟩ := hL
 have hw0 : bwSector a0 := Sector_lens a0 hL0
 clear hL0
 simp only [pars, Nat.zero_add]
 refine rS ?_
 refine rD 11 ?_
 refine rS ?_
 refine AWP.cond rfl (fun hb => ?_) (fun hb => ?_)
 ·replace hR := ct hR
  refine rS ?_
  refine AWP.ret ?_
  subst hR
  exact es
 ·replace hR := cf hR
  refine rS ?_
  refine AWP.ret ?_
  subst hR
  exact es
end N194
def D_zpg : DF
 | [x0] => some (.int .i64 (zpg (rdP dSector x0)), false, [wP eSector dSector x0])
 | _ => none
theorem D_zpg_ok : OkD Tryz.prog 194 D_zpg := by unfold D_zpg; exact dk N194.den
end Go.Ab

namespace Go.Ab
open Go Go.Proofs
def zec_b1 (a0 : (List Sector)) (i1 : Nat) (s1 : Unit) : Except (Bool) (Unit) :=
 (bif ((!(zje (a0.getD i1 default))) || (decide (0 < (i1 : Int)) && decide (((a0.getD i1 default).From) ≤ ((a0.getD ((IntKind.wrap .i64 ((i1 : Int) - 1)).toNat) default).From)))) then .error false else .ok ())
def zec_b2 (a0 : (List Sector)) (s1 : Unit) (s2 : Int) : Except (Sum (Bool) (Int)) (Int) :=
 (bif (decide (s2 < (a0.length : Int)) && decide (1 < (a0.length : Int))) then (bif decide (((IntKind.wrap .i64 ((IntKind.wrap .i64 (((a0.getD (((IntKind.wrap .i64 (s2 + 1)).tmod (a0.length : Int)).toNat) default).From) - ((a0.getD ((s2).toNat) default).From))) + 360)).tmod 360) < (zpg (a0.getD ((s2).toNat) default))) then .error (.inl false) else .ok (IntKind.wrap .i64 (s2 + 1))) else .error (.inr s2))
def zec (a0 : (List Sector)) : Bool :=
 (bif decide (12 < (a0.length : Int)) then false else (match loopR (zec_b1 a0) (a0.length - 0) 0 () with | .error e => e | .ok s1 => (match loopW (zec_b2 a0 s1) ((a0.length - ((0 : Int)).toNat) + 1) 0 with | .error (.inl e) => e | .error (.inr s2) => true | .ok _ => default)))
namespace N153
theorem DD : DOk Tryz.prog (Go.Ab.DD [(193, dP D_zje), (194, dP D_zpg)]) := DD_cons D_zje_ok.e <| DD_cons D_zpg_ok.e <| DD_nil _
theorem dn : type_of% (And.intro @D_zje.eq_1 <| @D_zpg.eq_1) := by and_intros <;> intros <;> rfl
theorem o0 {p : Prop} (h : p := by (first | (have hb2 := hb; simp only [Bool.and_eq_true, decide_eq_true_eq] at hb2; have h9 := nxt_ix hW2.1 hb2.1 (by omega); and_intros <;> first | omega | exact h9.1 | exact h9.2)); first | done | fail) : p := h
theorem den (a0 : (List Sector))  : Den Tryz.prog 153 [encL 3 eSector a0] (.bool (zec a0)) := by
 generalize hR : zec a0 = r
 unfold zec at hR
 refine di Tryz.func153 Tryz.ntmps153 Tryz.results153 ?_
 intro c hL hc hk
 obtain ⟨hL0, _⟩ := hL
 have hw0 : a0.length < 9223372036854775808 := Nat.lt_succ_of_le (lens_encL hL0).1
 have hw1 : ∀ v ∈ a0, bwSector v := fun v hv => Sector_lens v ((lens_encL hL0).2 v hv)
 clear hL0
 simp only [pars, Nat.zero_add]
 iterate 3 refine rS ?_
 refine AWP.cond rfl (fun hb => ?_) (fun hb => ?_)
 ·replace hR := ct hR
  refine rS ?_
  refine AWP.ret ?_
  subst hR
  exact es
 ·replace hR := cf hR
  refine rS ?_
  refine AWP.block ?_
  generalize hz1 : loopR (zec_b1 a0) (a0.length - 0) 0 () = z1 at hR
  refine AWP.range (zec_b1 a0) (fun i1 s1 => ⟨[(0, encL 3 eSector a0), (3, .int .i64 (a0.length : Int)), (4, .int .i64 (i1 : Int))], []⟩) (fun i1 s1 => True) (a0.length) 0 () [] hz1 ot wt sm ?_
  clear hz1
  intro i1 s1 hi1 hW1 hz1
  refine rS ?_
  refine AWP.cond rfl (fun hb => ?_) (fun hb => ?_)
  ·have hlt1 : i1 < a0.length := ot
   rw [loopR_lt hlt1] at hz1; simp only [zec_b1] at hz1
   refine rD 23 ?_
   refine AWP.cond rfl (fun hb => ?_) (fun hb => ?_)
   ·simp only [hb, cond_true] at hz1
    refine rS ?_
    refine AWP.ret ?_
    subst hz1
    dsimp only at hR
    subst hR
    exact es
   ·simp only [hb, cond_false] at hz1
    refine rS ?_
    exact ⟨_, [], hlt1, wt, hz1, sm⟩
  ·obtain rfl : i1 = a0.length := ot
   rw [loopR_ge (Nat.le_refl _)] at hz1; subst hz1; dsimp only at hR
   refine AWP.exit ?_; refine exitTo_here ?_
   refine rS ?_
   refine AWP.block ?_
   generalize hz2 : loopW (zec_b2 a0 s1) ((a0.length - ((0 : Int)).toNat) + 1) 0 = z2 at hR
   refine AWP.whileW (zec_b2 a0 s1) (fun s2 => ⟨[(0, encL 3 eSector a0), (3, .int .i64 (a0.length : Int)), (5, .int .i64 s2)], []⟩) (fun s2 => 0 ≤ s2 ∧ s2 ≤ a0.length) (fun s2 => a0.length - (s2).toNat) ((a0.length - ((0 : Int)).toNat) + 1) 0 [] hz2 m0 wt sm ?_
   clear hz2
   intro s2 k2 hW2 hm2 hz2
   simp only [zec_b2] at hz2
   refine rS ?_
   refine AWP.cond rfl (fun hb => ?_) (fun hb => ?_)
   ·simp only [hb, cond_true] at hz2
    refine rD 21 ?_
    refine AWP.cond rfl (fun hb => ?_) (fun hb => ?_)
    ·simp only [hb, cond_true] at hz2
     refine rS ?_
     refine AWP.ret ?_
     subst hz2
     dsimp only at hR
     subst hR
     exact es
    ·simp only [hb, cond_false] at hz2
     refine rS ?_
     exact ⟨_, [], ms, wt, hz2, sm⟩
   ·simp only [hb, cond_false] at hz2
    refine AWP.exit ?_
    refine exitTo_here ?_
    subst hz2; dsimp only at hR
    refine rS ?_
    refine AWP.ret ?_
    subst hR
    exact es
end N153
def D_zec : DF
 | [x0] => some (.bool (zec (rdL dSector x0)), false, [wL 3 eSector dSector x0])
 | _ => none
theorem D_zec_ok : OkD Tryz.prog 153 D_zec := by unfold D_zec; exact dk N153.den
end Go.Ab

namespace Go.Ab
open Go Go.Proofs
def zlc_b2 (a0 : (List Sector)) (i1 : Nat) (s1 : List UInt8) (i2 : Nat) (s2 : List UInt8) : Except (Sum ((List UInt8)) (List UInt8)) (List UInt8) :=
 (bif (((a0.getD i2 default).Color) == ([[87], [82], [71], [89]].getD i1 default)) then .error (.inr (s2 ++ ([[87], [82], [71], [89]].getD i1 default))) else .ok s2)
def zlc_b1 (a0 : (List Sector)) (i1 : Nat) (s1 : List UInt8) : Except ((List UInt8)) (List UInt8) :=
 (match loopR (zlc_b2 a0 i1 s1) (a0.length - 0) 0 s1 with | .error (.inl e) => .error e | .error (.inr s2) => .ok s2 | .ok s2 => .ok s2)
def zlc (a0 : (List Sector)) : (List UInt8) :=
 (match loopR (zlc_b1 a0) (4 - 0) 0 [] with | .error e => e | .ok s1 => s1)
namespace N154
theorem DD : DOk Tryz.prog (Go.Ab.DD []) := DD_nil _
theorem o0 {p : Prop} (h : p := by (first | (have h4 := hq4 i1; have h1 := hW1; have h2 := hW2; and_intros <;> omega)); first | done | fail) : p := h
theorem lx {p : Prop} (h : p := by (exact lxx); first | done | fail) : p := h
theorem den (a0 : (List Sector)) (hb0 : a0.length < 1099511627776) (hb1 : ∀ v ∈ a0, bdSector v) : Den Tryz.prog 154 [encL 3 eSector a0] (.str (zlc a0)) := by
 generalize hR : zlc a0 = r
 unfold zlc at hR
 refine di Tryz.func154 Tryz.ntmps154 Tryz.results154 ?_
 intro c hL hc hk
 obtain ⟨hL0, _⟩ := hL
 have hw0 : a0.length < 9223372036854775808 := Nat.lt_succ_of_le (lens_encL hL0).1
 have hw1 : ∀ v ∈ a0, bwSector v := fun v hv => Sector_lens v ((lens_encL hL0).2 v hv)
 clear hL0
 simp only [pars, Nat.zero_add]
 have hq4 : ∀ i : Nat, (([[87], [82], [71], [89]] : List (List UInt8)).getD i default).length ≤ 1 := fun i => by rcases i with _ | _ | _ | _ | i <;> first | exact Nat.le_refl _ | exact Nat.zero_le _
 iterate 4 refine rS ?_
 refine AWP.block ?_
 generalize hz1 : loopR (zlc_b1 a0) (4 - 0) 0 [] = z1 at hR
 refine AWP.range (zlc_b1 a0) (fun i1 s1 => ⟨[(0, encL 3 eSector a0), (3, .str s1), (4, .ref 0 1 0 4), (5, .int .i64 (i1 : Int))], [.arr 9 1 [[87], [82], [71], [89]].length (fun j => eS ([[87], [82], [71], [89]].getD j default))]⟩) (fun i1 s1 => s1.length ≤ i1) (4) 0 [] [0] hz1 ot (by (simp)) sm ?_
 clear hz1
 intro i1 s1 hi1 hW1 hz1
 refine rS ?_
 refine AWP.cond rfl (fun hb => ?_) (fun hb => ?_)
 ·have hlt1 : i1 < 4 := ot
  rw [loopR_lt hlt1] at hz1; simp only [zlc_b1] at hz1
  refine rS ?_
  refine AWP.block ?_
  generalize hz2 : loopR (zlc_b2 a0 i1 s1) (a0.length - 0) 0 s1 = z2 at hz1
  refine AWP.range (zlc_b2 a0 i1 s1) (fun i2 s2 => ⟨[(0, encL 3 eSector a0), (3, .str s2), (4, .ref 0 1 0 4), (5, .int .i64 (i1 : Int)), (6, .int .i64 (i2 : Int))], [.arr 9 1 [[87], [82], [71], [89]].length (fun j => eS ([[87], [82], [71], [89]].getD j default))]⟩) (fun i2 s2 => s2.length ≤ i1) (a0.length) 0 s1 [0] hz2 ot (by (exact hW1)) sm ?_
  clear hz2
  intro i2 s2 hi2 hW2 hz2
  refine rS ?_
  refine AWP.cond rfl (fun hb => ?_) (fun hb => ?_)
  ·have hlt2 : i2 < a0.length := ot
   rw [loopR_lt hlt2] at hz2; simp only [zlc_b2] at hz2
   refine rD 9 ?_
   refine AWP.cond rfl (fun hb => ?_) (fun hb => ?_)
   ·simp only [hb, cond_true] at hz2
    refine rS ?_
    refine AWP.exit ?_
    refine exitTo_there rfl ?_
    refine exitTo_here ?_
    subst hz2; dsimp only at hz1
    refine rS ?_
    exact ⟨_, [0], hlt1, by (have h4 := hq4 i1; simp only [ln] at *; omega), hz1, sm⟩
   ·simp only [hb, cond_false] at hz2
    refine rS ?_
    exact ⟨_, [0], hlt2, by (first | exact hW2 | assumption), hz2, sm⟩
  ·obtain rfl : i2 = a0.length := ot
   rw [loopR_ge (Nat.le_refl _)] at hz2; subst hz2; dsimp only at hz1
   refine AWP.exit ?_; refine exitTo_here ?_
   refine rS ?_
   exact ⟨_, [0], hlt1, by (have h4 := hq4 i1; simp only [ln] at *; omega), hz1, sm⟩
 ·obtain rfl : i1 = 4 := ot
  rw [loopR_ge (Nat.le_refl _)] at hz1; subst hz1; dsimp only at hR
  refine AWP.exit ?_; refine exitTo_here ?_
  refine rS ?_
  refine AWP.ret ?_
  subst hR
  exact es
end N154
def D_zlc : DF
 | [x0] => some (.str (zlc (rdL dSector x0)), false, [wL 3 eSector dSector x0, (rdL dSector x0).length < 1099511627776, ∀ v ∈ (rdL dSector x0), bdSector v])
 | _ => none
theorem D_zlc_ok : OkD Tryz.prog 154 D_zlc := by unfold D_zlc; exact dk N154.den
end Go.Ab

namespace Go.Ab
open Go Go.Proofs
def zvd (a0 : Int) : Bool :=
 (ze a0 1 9)
namespace N220
theorem DD : DOk Tryz.prog (Go.Ab.DD [(137, dP D_ze)]) := DD_cons D_ze_ok.e <| DD_nil _
theorem dn : type_of% (@D_ze.eq_1) := by and_intros <;> intros <;> rfl
theorem ol : type_of% (@ze.eq_1) := @ze.eq_1
theorem den (a0 : Int)  : Den Tryz.prog 220 [.int .i64 a0] (.bool (zvd a0)) := by
 generalize hR : zvd a0 = r
 unfold zvd at hR
 refine di Tryz.func220 Tryz.ntmps220 Tryz.results220 ?_
 intro c hL hc hk
 clear hL
 simp only [pars, Nat.zero_add]
 iterate 2 refine rS ?_
 refine AWP.ret ?_
 subst hR
 exact es
end N220
def D_zvd : DF
 | [x0] => some (.bool (zvd (rdI x0)), false, [wI .i64 x0])
 | _ => none
theorem D_zvd_ok : OkD Tryz.prog 220 D_zvd := by unfold D_zvd; exact dk N220.den
end Go.Ab

namespace Go.Ab
open Go Go.Proofs
def zbg (a0 : Int) : (List UInt8) :=
 (([[], [82], [71], [66, 89], [66, 89, 66], [89, 66], [89, 66, 89], [66, 82, 66], [82, 87], [89]] : List (List UInt8)).getD ((a0).toNat) default)
namespace N221
theorem DD : DOk Tryz.prog (Go.Ab.DD []) := DD_nil _
theorem lx {p : Prop} (h : p := by (exact lxx); first | done | fail) : p := h
theorem den (a0 : Int) (hp0 : 0 ≤ a0) (hp1 : a0 ≤ 9) : Den Tryz.prog 221 [.int .i64 a0] (.str (zbg a0)) := by
 generalize hR : zbg a0 = r
 unfold zbg at hR
 refine di Tryz.func221 Tryz.ntmps221 Tryz.results221 ?_
 intro c hL hc hk
 clear hL
 simp only [pars, Nat.zero_add]
 iterate 2 refine rS ?_
 refine AWP.ret ?_
 subst hR
 exact es
end N221
def D_zbg : DF
 | [x0] => some (.str (zbg (rdI x0)), false, [wI .i64 x0, 0 ≤ (rdI x0), (rdI x0) ≤ 9])
 | _ => none
theorem D_zbg_ok : OkD Tryz.prog 221 D_zbg := by unfold D_zbg; exact dk N221.den
end Go.Ab
