/- A part of a proof: walks of functions and lemmas of our own. No conditions. -/
import Derived.Test.YtaneiddiakjgdaaGreatDoorUAl
import Derived.Test.YtaneiddiakjgdaaGreatDoorUAp
set_option linter.unusedSectionVars false
set_option linter.unusedVariables false
set_option linter.unusedSimpArgs false
set_option maxHeartbeats 1000000
namespace Go.Ab
open Go Go.Proofs
def zhd (a0 : Int) : Bool :=
 (decide (97 ≤ a0) && decide (a0 ≤ 122))
namespace N187
theorem DD : DOk Tryz.prog (Go.Ab.DD []) := DD_nil _
theorem den (a0 : Int)  : Den Tryz.prog 187 [.int .u8 a0] (.bool (zhd a0)) := by
 generalize hR : zhd a0 = r
 unfold zhd at hR
 refine di Tryz.func187 Tryz.ntmps187 Tryz.results187 ?_
 intro c hL hc hk
 clear hL
 simp only [pars, Nat.zero_add]
 iterate 2 refine rS ?_
 refine AWP.ret ?_
 subst hR
 exact es
end N187
def D_zhd : DF
 | [x0] => some (.bool (zhd (rdI x0)), false, [wI .u8 x0])
 | _ => none
theorem D_zhd_ok : OkD Tryz.prog 187 D_zhd := by unfold D_zhd; exact dk N187.den
end Go.Ab

namespace Go.Ab
open Go Go.Proofs
def zue (a0 : Int) : Bool :=
 (decide (48 ≤ a0) && decide (a0 ≤ 57))
namespace N188
theorem DD : DOk Tryz.prog (Go.Ab.DD []) := DD_nil _
theorem den (a0 : Int)  : Den Tryz.prog 188 [.int .u8 a0] (.bool (zue a0)) := by
 generalize hR : zue a0 = r
 unfold zue at hR
 refine di Tryz.func188 Tryz.ntmps188 Tryz.results188 ?_
 intro c hL hc hk
 clear hL
 simp only [pars, Nat.zero_add]
 iterate 2 refine rS ?_
 refine AWP.ret ?_
 subst hR
 exact es
end N188
def D_zue : DF
 | [x0] => some (.bool (zue (rdI x0)), false, [wI .u8 x0])
 | _ => none
theorem D_zue_ok : OkD Tryz.prog 188 D_zue := by unfold D_zue; exact dk N188.den
end Go.Ab

namespace Go.Ab
open Go Go.Proofs
def zpc_b1 (a0 : (List UInt8)) (i1 : Nat) (s1 : Unit) : Except (Bool) (Unit) :=
 (bif ((!(zhd ((a0.getD i1 0).toNat : Int))) && (!(zue ((a0.getD i1 0).toNat : Int)))) then .error false else .ok ())
def zpc (a0 : (List UInt8)) : Bool :=
 (bif (((a0 == []) || decide (10 < (a0.length : Int))) || (!(zhd ((a0.getD 0 0).toNat : Int)))) then false else (match loopR (zpc_b1 a0) (a0.length - 0) 0 () with | .error e => e | .ok s1 => true))
namespace N148
theorem DD : DOk Tryz.prog (Go.Ab.DD [(187, dP D_zhd), (188, dP D_zue)]) := DD_cons D_zhd_ok.e <| DD_cons D_zue_ok.e <| DD_nil _
theorem dn : type_of% (And.intro @D_zhd.eq_1 <| @D_zue.eq_1) := by and_intros <;> intros <;> rfl
theorem den (a0 : (List UInt8))  : Den Tryz.prog 148 [.str a0] (.bool (zpc a0)) := by
 generalize hR : zpc a0 = r
 unfold zpc at hR
 refine di Tryz.func148 Tryz.ntmps148 Tryz.results148 ?_
 intro c hL hc hk
 obtain ⟨hL0, _⟩ := hL
 have hw0 : a0.length < 9223372036854775808 := Nat.lt_succ_of_le hL0
 clear hL0
 simp only [pars, Nat.zero_add]
 iterate 2 refine rS ?_
 refine AWP.cond rfl (fun hb => ?_) (fun hb => ?_)
 ·replace hR := ct hR
  refine rS ?_
  refine AWP.ret ?_
  subst hR
  exact es
 ·replace hR := cf hR
  refine rS ?_
  refine AWP.block ?_
  generalize hz1 : loopR (zpc_b1 a0) (a0.length - 0) 0 () = z1 at hR
  refine AWP.range (zpc_b1 a0) (fun i1 s1 => ⟨[(0, .str a0), (3, .int .i64 (i1 : Int))], []⟩) (fun i1 s1 => True) (a0.length) 0 () [] hz1 ot wt sm ?_
  clear hz1
  intro i1 s1 hi1 hW1 hz1
  refine rS ?_
  refine AWP.cond rfl (fun hb => ?_) (fun hb => ?_)
  ·have hlt1 : i1 < a0.length := ot
   rw [loopR_lt hlt1] at hz1; simp only [zpc_b1] at hz1
   refine rS ?_
   refine AWP.cond rfl (fun hb => ?_) (fun hb => ?_)
   ·simp only [hb, cond_true] at hz1
    refine rS ?_
    refine AWP.ret ?_
    subst hz1
    dsimp only at hR
    subst hR
    exact es
   ·simp only [hb, cond_false] at hz1
    refine rS ?_
    exact ⟨_, [], hlt1, wt, hz1, sm⟩
  ·obtain rfl : i1 = a0.length := ot
   rw [loopR_ge (Nat.le_refl _)] at hz1; subst hz1; dsimp only at hR
   refine AWP.exit ?_; refine exitTo_here ?_
   refine rS ?_
   refine AWP.ret ?_
   subst hR
   exact es
end N148
def D_zpc : DF
 | [x0] => some (.bool (zpc (rdS x0)), false, [wS x0])
 | _ => none
theorem D_zpc_ok : OkD Tryz.prog 148 D_zpc := by unfold D_zpc; exact dk N148.den
end Go.Ab

namespace Go.Ab
open Go Go.Proofs
def zh (a0 : Int) (a1 : Int) (a2 : Int) : Bool :=
 (decide (a1 ≤ a0) && decide (a0 ≤ a2))
namespace N137
theorem DD : DOk Tryz.prog (Go.Ab.DD []) := DD_nil _
theorem den (a0 : Int) (a1 : Int) (a2 : Int)  : Den Tryz.prog 137 [.int .i64 a0, .int .i64 a1, .int .i64 a2] (.bool (zh a0 a1 a2)) := by
 generalize hR : zh a0 a1 a2 = r
 unfold zh at hR
 refine di Tryz.func137 Tryz.ntmps137 Tryz.results137 ?_
 intro c hL hc hk
 clear hL
 simp only [pars, Nat.zero_add]
 iterate 2 refine rS ?_
 refine AWP.ret ?_
 subst hR
 exact es
end N137
def D_zh : DF
 | [x0, x1, x2] => some (.bool (zh (rdI x0) (rdI x1) (rdI x2)), false, [wI .i64 x0, wI .i64 x1, wI .i64 x2])
 | _ => none
theorem D_zh_ok : OkD Tryz.prog 137 D_zh := by unfold D_zh; exact dk N137.den
end Go.Ab

namespace Go.Ab
open Go Go.Proofs
def zcd_b1 (a0 : (List Int)) (i1 : Nat) (s1 : Int) : Except (Int) (Int) :=
 .ok (IntKind.wrap .i64 (s1 + (a0.getD i1 default)))
def zcd (a0 : (List Int)) : Int :=
 (bif ((a0.length : Int) == 0) then 1 else (match loopR (zcd_b1 a0) (a0.length - 0) 0 0 with | .error e => e | .ok s1 => s1))
namespace N247
theorem DD : DOk Tryz.prog (Go.Ab.DD []) := DD_nil _
theorem den (a0 : (List Int))  : Den Tryz.prog 247 [encL 1 eIi64 a0] (.int .i64 (zcd a0)) := by
 generalize hR : zcd a0 = r
 unfold zcd at hR
 refine di Tryz.func247 Tryz.ntmps247 Tryz.results247 ?_
 intro c hL hc hk
 obtain ⟨hL0, _⟩ := hL
 have hw0 : a0.length < 9223372036854775808 := Nat.lt_succ_of_le (lens_encL hL0).1
 clear hL0
 simp only [pars, Nat.zero_add]
 iterate 2 refine rS ?_
 refine AWP.cond rfl (fun hb => ?_) (fun hb => ?_)
 ·replace hR := ct hR
  refine rS ?_
  refine AWP.ret ?_
  subst hR
  exact es
 ·replace hR := cf hR
  iterate 2 refine rS ?_
  refine AWP.block ?_
  generalize hz1 : loopR (zcd_b1 a0) (a0.length - 0) 0 0 = z1 at hR
  refine AWP.range (zcd_b1 a0) (fun i1 s1 => ⟨[(0, encL 1 eIi64 a0), (3, .int .i64 s1), (4, .int .i64 (i1 : Int))], []⟩) (fun i1 s1 => True) (a0.length) 0 0 [] hz1 ot wt sm ?_
  clear hz1
  intro i1 s1 hi1 hW1 hz1
  refine rS ?_
  refine AWP.cond rfl (fun hb => ?_) (fun hb => ?_)
  ·have hlt1 : i1 < a0.length := ot
   rw [loopR_lt hlt1] at hz1; simp only [zcd_b1] at hz1
   iterate 2 refine rS ?_
   exact ⟨_, [], hlt1, wt, hz1, sm⟩
  ·obtain rfl : i1 = a0.length := ot
   rw [loopR_ge (Nat.le_refl _)] at hz1; subst hz1; dsimp only at hR
   refine AWP.exit ?_; refine exitTo_here ?_
   refine rS ?_
   refine AWP.ret ?_
   subst hR
   exact es
end N247
def D_zcd : DF
 | [x0] => some (.int .i64 (zcd (rdL dIi64 x0)), false, [wL 1 eIi64 dIi64 x0])
 | _ => none
theorem D_zcd_ok : OkD Tryz.prog 247 D_zcd := by unfold D_zcd; exact dk N247.den
end Go.Ab

namespace Go.Ab
open Go Go.Proofs
def zyb_b1 (a0 : (List Int)) (i1 : Nat) (s1 : Unit) : Except (Bool) (Unit) :=
 (bif (!(zh (a0.getD i1 default) 1 9)) then .error false else .ok ())
def zyb (a0 : (List Int)) : Bool :=
 (match loopR (zyb_b1 a0) (a0.length - 0) 0 () with | .error e => e | .ok s1 => ((decide ((a0.length : Int) ≤ 4) && (!(((a0.length : Int) == 1) && ((a0.getD 0 default) == 1)))) && decide ((zcd a0) ≤ 12)))
namespace N226
theorem DD : DOk Tryz.prog (Go.Ab.DD [(137, dP D_zh), (247, dP D_zcd)]) := DD_cons D_zh_ok.e <| DD_cons D_zcd_ok.e <| DD_nil _
theorem dn : type_of% (And.intro @D_zh.eq_1 <| @D_zcd.eq_1) := by and_intros <;> intros <;> rfl
theorem ol : type_of% (@zh.eq_1) := @zh.eq_1
theorem den (a0 : (List Int))  : Den Tryz.prog 226 [encL 1 eIi64 a0] (.bool (zyb a0)) := by
 generalize hR : zyb a0 = r
 unfold zyb at hR
 refine di Tryz.func226 Tryz.ntmps226 Tryz.results226 ?_
 intro c hL hc hk
 obtain ⟨hL0, _⟩ := hL
 have hw0 : a0.length < 9223372036854775808 := Nat.lt_succ_of_le (lens_encL hL0).1
 clear hL0
 simp only [pars, Nat.zero_add]
 iterate 2 refine rS ?_
 refine AWP.block ?_
 generalize hz1 : loopR (zyb_b1 a0) (a0.length - 0) 0 () = z1 at hR
 refine AWP.range (zyb_b1 a0) (fun i1 s1 => ⟨[(0, encL 1 eIi64 a0), (3, .int .i64 (i1 : Int))], []⟩) (fun i1 s1 => True) (a0.length) 0 () [] hz1 ot wt sm ?_
 clear hz1
 intro i1 s1 hi1 hW1 hz1
 refine rS ?_
 refine AWP.cond rfl (fun hb => ?_) (fun hb => ?_)
 ·have hlt1 : i1 < a0.length := ot
  rw [loopR_lt hlt1] at hz1; simp only [zyb_b1] at hz1
  refine rS ?_
  refine AWP.cond rfl (fun hb => ?_) (fun hb => ?_)
  ·simp only [hb, cond_true] at hz1
   refine rS ?_
   refine AWP.ret ?_
   subst hz1
   dsimp only at hR
   subst hR
   exact es
  ·simp only [hb, cond_false] at hz1
   refine rS ?_
   exact ⟨_, [], hlt1, wt, hz1, sm⟩
 ·obtain rfl : i1 = a0.length := ot
  rw [loopR_ge (Nat.le_refl _)] at hz1; subst hz1; dsimp only at hR
  refine AWP.exit ?_; refine exitTo_here ?_
  refine rS ?_
  refine AWP.ret ?_
  subst hR
  exact es
end N226
def D_zyb : DF
 | [x0] => some (.bool (zyb (rdL dIi64 x0)), false, [wL 1 eIi64 dIi64 x0])
 | _ => none
theorem D_zyb_ok : OkD Tryz.prog 226 D_zyb := by unfold D_zyb; exact dk N226.den
end Go.Ab

namespace Go.Ab
open Go Go.Proofs
def zpd (a0 : Int) : Int :=
 (bif (a0 == 87) then 1 else (bif (a0 == 82) then 2 else (bif (a0 == 71) then 3 else (bif (a0 == 89) then 4 else 0))))
namespace N246
theorem DD : DOk Tryz.prog (Go.Ab.DD []) := DD_nil _
theorem den (a0 : Int)  : Den Tryz.prog 246 [.int .u8 a0] (.int .i64 (zpd a0)) := by
 generalize hR : zpd a0 = r
 unfold zpd at hR
 refine di Tryz.func246 Tryz.ntmps246 Tryz.results246 ?_
 intro c hL hc hk
 clear hL
 simp only [pars, Nat.zero_add]
 iterate 3 refine rS ?_
 refine AWP.cond rfl (fun hb => ?_) (fun hb => ?_)
 ·replace hR := ct hR
  refine rS ?_
  refine AWP.ret ?_
  subst hR
  exact es
 ·replace hR := cf hR
  refine rS ?_
  refine AWP.cond rfl (fun hb => ?_) (fun hb => ?_)
  ·replace hR := ct hR
   refine rS ?_
   refine AWP.ret ?_
   subst hR
   exact es
  ·replace hR := cf hR
   refine rS ?_
   refine AWP.cond rfl (fun hb => ?_) (fun hb => ?_)
   ·replace hR := ct hR
    refine rS ?_
    refine AWP.ret ?_
    subst hR
    exact es
   ·replace hR := cf hR
    refine rS ?_
    refine AWP.cond rfl (fun hb => ?_) (fun hb => ?_)
    ·replace hR := ct hR
     refine rS ?_
     refine AWP.ret ?_
     subst hR
     exact es
    ·replace hR := cf hR
     refine rS ?_
     refine AWP.ret ?_
     subst hR
     exact es
end N246
def D_zpd : DF
 | [x0] => some (.int .i64 (zpd (rdI x0)), false, [wI .u8 x0])
 | _ => none
theorem D_zpd_ok : OkD Tryz.prog 246 D_zpd := by unfold D_zpd; exact dk N246.den
end Go.Ab

namespace Go.Ab
open Go Go.Proofs
def zqc_b1 (a0 : (List UInt8)) (i1 : Nat) (s1 : Unit) : Except (Bool) (Unit) :=
 (bif (((zpd ((a0.getD i1 0).toNat : Int)) == 0) || (decide (0 < (i1 : Int)) && decide ((zpd ((a0.getD i1 0).toNat : Int)) ≤ (zpd ((a0.getD ((IntKind.wrap .i64 ((i1 : Int) - 1)).toNat) 0).toNat : Int))))) then .error false else .ok ())
def zqc (a0 : (List UInt8)) : Bool :=
 (match loopR (zqc_b1 a0) (a0.length - 0) 0 () with | .error e => e | .ok s1 => (decide (1 ≤ (a0.length : Int)) && decide ((a0.length : Int) ≤ 3)))
namespace N225
theorem DD : DOk Tryz.prog (Go.Ab.DD [(246, dP D_zpd)]) := DD_cons D_zpd_ok.e <| DD_nil _
theorem dn : type_of% (@D_zpd.eq_1) := by and_intros <;> intros <;> rfl
theorem den (a0 : (List UInt8))  : Den Tryz.prog 225 [.str a0] (.bool (zqc a0)) := by
 generalize hR : zqc a0 = r
 unfold zqc at hR
 refine di Tryz.func225 Tryz.ntmps225 Tryz.results225 ?_
 intro c hL hc hk
 obtain ⟨hL0, _⟩ := hL
 have hw0 : a0.length < 9223372036854775808 := Nat.lt_succ_of_le hL0
 clear hL0
 simp only [pars, Nat.zero_add]
 iterate 2 refine rS ?_
 refine AWP.block ?_
 generalize hz1 : loopR (zqc_b1 a0) (a0.length - 0) 0 () = z1 at hR
 refine AWP.range (zqc_b1 a0) (fun i1 s1 => ⟨[(0, .str a0), (3, .int .i64 (i1 : Int))], []⟩) (fun i1 s1 => True) (a0.length) 0 () [] hz1 ot wt sm ?_
 clear hz1
 intro i1 s1 hi1 hW1 hz1
 refine rS ?_
 refine AWP.cond rfl (fun hb => ?_) (fun hb => ?_)
 ·have hlt1 : i1 < a0.length := ot
  rw [loopR_lt hlt1] at hz1; simp only [zqc_b1] at hz1
  refine rD 21 ?_
  refine AWP.cond rfl (fun hb => ?_) (fun hb => ?_)
  ·simp only [hb, cond_true] at hz1
   refine rS ?_
   refine AWP.ret ?_
   subst hz1
   dsimp only at hR
   subst hR
   exact es
  ·simp only [hb, cond_false] at hz1
   refine rS ?_
   exact ⟨_, [], hlt1, wt, hz1, sm⟩
 ·obtain rfl : i1 = a0.length := ot
  rw [loopR_ge (Nat.le_refl _)] at hz1; subst hz1; dsimp only at hR
  refine AWP.exit ?_; refine exitTo_here ?_
  refine rS ?_
  refine AWP.ret ?_
  subst hR
  exact es
end N225
def D_zqc : DF
 | [x0] => some (.bool (zqc (rdS x0)), false, [wS x0])
 | _ => none
theorem D_zqc_ok : OkD Tryz.prog 225 D_zqc := by unfold D_zqc; exact dk N225.den
end Go.Ab

namespace Go.Ab
open Go Go.Proofs
def zif (a0 : Int) : Bool :=
 (zh a0 1 8)
namespace N224
theorem DD : DOk Tryz.prog (Go.Ab.DD [(137, dP D_zh)]) := DD_cons D_zh_ok.e <| DD_nil _
theorem dn : type_of% (@D_zh.eq_1) := by and_intros <;> intros <;> rfl
theorem ol : type_of% (@zh.eq_1) := @zh.eq_1
theorem den (a0 : Int)  : Den Tryz.prog 224 [.int .i64 a0] (.bool (zif a0)) := by
 generalize hR : zif a0 = r
 unfold zif at hR
 refine di Tryz.func224 Tryz.ntmps224 Tryz.results224 ?_
 intro c hL hc hk
 clear hL
 simp only [pars, Nat.zero_add]
 iterate 2 refine rS ?_
 refine AWP.ret ?_
 subst hR
 exact es
end N224
def D_zif : DF
 | [x0] => some (.bool (zif (rdI x0)), false, [wI .i64 x0])
 | _ => none
theorem D_zif_ok : OkD Tryz.prog 224 D_zif := by unfold D_zif; exact dk N224.den
end Go.Ab

namespace Go.Ab
open Go Go.Proofs
def zqd (a0 : Character) : Bool :=
 (bif ((!(zif a0.Kind)) || (!(zqc a0.Colors))) then false else (bif (a0.Kind == 1) then (((a0.Group.length : Int) == 0) && (a0.Letter == [])) else (bif (a0.Kind == 3) then (((a0.Group.length : Int) == 0) && (a0.Letter == [])) else (bif (a0.Kind == 6) then (bif (a0.Letter == [76]) then (((a0.Group.length : Int) == 1) && ((a0.Group.getD 0 default) == 6)) else (((a0.Letter == []) && decide ((a0.Group.length : Int) ≤ 1)) && (zyb a0.Group))) else (bif (a0.Kind == 7) then (bif (a0.Letter == [76]) then (((a0.Group.length : Int) == 1) && ((a0.Group.getD 0 default) == 6)) else (((a0.Letter == []) && decide ((a0.Group.length : Int) ≤ 1)) && (zyb a0.Group))) else (bif (a0.Kind == 8) then (((((a0.Group.length : Int) == 0) && ((a0.Letter.length : Int) == 1)) && decide (65 ≤ ((a0.Letter.getD 0 0).toNat : Int))) && decide (((a0.Letter.getD 0 0).toNat : Int) ≤ 90)) else ((a0.Letter == []) && (zyb a0.Group))))))))
namespace N190
theorem DD : DOk Tryz.prog (Go.Ab.DD [(224, dP D_zif), (225, dP D_zqc), (226, dP D_zyb)]) := DD_cons D_zif_ok.e <| DD_cons D_zqc_ok.e <| DD_cons D_zyb_ok.e <| DD_nil _
theorem dn : type_of% (And.intro @D_zif.eq_1 <| And.intro @D_zqc.eq_1 <| @D_zyb.eq_1) := by and_intros <;> intros <;> rfl
theorem den (a0 : Character)  : Den Tryz.prog 190 [.ep (eCharacter a0)] (.bool (zqd a0)) := by
 generalize hR : zqd a0 = r
 unfold zqd at hR
 refine di Tryz.func190 Tryz.ntmps190 Tryz.results190 ?_
 intro c hL hc hk
 obtain ⟨hL0, _⟩ := hL
 have hw0 : bwCharacter a0 := Character_lens a0 hL0
 clear hL0
 simp only [pars, Nat.zero_add]
 iterate 2 refine rS ?_
 refine AWP.cond rfl (fun hb => ?_) (fun hb => ?_)
 ·replace hR := ct hR
  refine rS ?_
  refine AWP.ret ?_
  subst hR
  exact es
 ·replace hR := cf hR
  iterate 2 refine rS ?_
  refine AWP.cond rfl (fun hb => ?_) (fun hb => ?_)
  ·replace hR := ct hR
   refine AWP.skip ?_
   refine AWP.cond rfl (fun hb => ?_) (fun hb => ?_)
   ·refine rS ?_
    refine AWP.ret ?_
    subst hR
    exact es
   ·exfalso; simp_all
  ·replace hR := cf hR
   refine rS ?_
   refine AWP.cond rfl (fun hb => ?_) (fun hb => ?_)
   ·replace hR := ct hR
    refine rS ?_
    refine AWP.ret ?_
    subst hR
    exact es
   ·replace hR := cf hR
    refine rS ?_
    refine AWP.cond rfl (fun hb => ?_) (fun hb => ?_)
    ·replace hR := ct hR
     refine AWP.skip ?_
     refine AWP.cond rfl (fun hb => ?_) (fun hb => ?_)
     ·refine rS ?_
      refine AWP.cond rfl (fun hb => ?_) (fun hb => ?_)
      ·replace hR := ct hR
       refine rS ?_
       refine AWP.ret ?_
       subst hR
       exact es
      ·replace hR := cf hR
       refine rS ?_
       refine AWP.ret ?_
       subst hR
       exact es
     ·exfalso; simp_all
    ·replace hR := cf hR
     refine rS ?_
     refine AWP.cond rfl (fun hb => ?_) (fun hb => ?_)
     ·replace hR := ct hR
      refine rS ?_
      refine AWP.cond rfl (fun hb => ?_) (fun hb => ?_)
      ·replace hR := ct hR
       refine rS ?_
       refine AWP.ret ?_
       subst hR
       exact es
      ·replace hR := cf hR
       refine rS ?_
       refine AWP.ret ?_
       subst hR
       exact es
     ·replace hR := cf hR
      refine rS ?_
      refine AWP.cond rfl (fun hb => ?_) (fun hb => ?_)
      ·replace hR := ct hR
       refine rS ?_
       refine AWP.ret ?_
       subst hR
       exact es
      ·replace hR := cf hR
       refine rS ?_
       refine AWP.ret ?_
       subst hR
       exact es
end N190
def D_zqd : DF
 | [x0] => some (.bool (zqd (rdP dCharacter x0)), false, [wP eCharacter dCharacter x0])
 | _ => none
theorem D_zqd_ok : OkD Tryz.prog 190 D_zqd := by unfold D_zqd; exact dk N190.den
end Go.Ab

namespace Go.Ab
open Go Go.Proofs
def zeb_b1 (a0 : Int) (i1 : Nat) (s1 : List Int) : Except ((List Int)) (List Int) :=
 (bif ((((([[46, 45], [45, 46, 46, 46], [45, 46, 45, 46], [45, 46, 46], [46], [46, 46, 45, 46], [45, 45, 46], [46, 46, 46, 46], [46, 46], [46, 45, 45, 45], [45, 46, 45], [46, 45, 46, 46], [45, 45], [45, 46], [45, 45, 45], [46, 45, 45, 46], [45, 45, 46, 45], [46, 45, 46], [46, 46, 46], [45], [46, 46, 45], [46, 46, 46, 45], [46, 45, 45], [45, 46, 46, 45], [45, 46, 45, 45], [45, 45, 46, 46]] : List (List UInt8)).getD ((IntKind.wrap .u8 (a0 - 65)).toNat) default).getD i1 0).toNat : Int) == 46) then .ok (s1 ++ ([5] : List Int)) else .ok (s1 ++ ([15] : List Int)))
def zeb (a0 : Int) : (List Int) :=
 (match loopR (zeb_b1 a0) (((([[46, 45], [45, 46, 46, 46], [45, 46, 45, 46], [45, 46, 46], [46], [46, 46, 45, 46], [45, 45, 46], [46, 46, 46, 46], [46, 46], [46, 45, 45, 45], [45, 46, 45], [46, 45, 46, 46], [45, 45], [45, 46], [45, 45, 45], [46, 45, 45, 46], [45, 45, 46, 45], [46, 45, 46], [46, 46, 46], [45], [46, 46, 45], [46, 46, 46, 45], [46, 45, 45], [45, 46, 46, 45], [45, 46, 45, 45], [45, 45, 46, 46]] : List (List UInt8)).getD ((IntKind.wrap .u8 (a0 - 65)).toNat) default).length) - 0) 0 ([] : List Int) with | .error e => e | .ok s1 => s1)
namespace N248
theorem DD : DOk Tryz.prog (Go.Ab.DD []) := DD_nil _
theorem lx {p : Prop} (h : p := by (exact lxx); first | done | fail) : p := h
theorem den (a0 : Int) (hp0 : 65 ≤ a0) (hp1 : a0 ≤ 90) : Den Tryz.prog 248 [.int .u8 a0] (ownL 2 1 eIi64 (zeb a0)) := by
 generalize hR : zeb a0 = r
 unfold zeb at hR
 refine di Tryz.func248 Tryz.ntmps248 Tryz.results248 ?_
 intro c hL hc hk
 clear hL
 simp only [pars, Nat.zero_add]
 have hs9 := code_len (IntKind.wrap .u8 (a0 - 65)).toNat
 have hw9 : IntKind.wrap .u8 (a0 - 65) = a0 - 65 := u8_wrap _ (by omega) (by omega)
 iterate 5 refine rS ?_
 refine AWP.block ?_
 generalize hz1 : loopR (zeb_b1 a0) (((([[46, 45], [45, 46, 46, 46], [45, 46, 45, 46], [45, 46, 46], [46], [46, 46, 45, 46], [45, 45, 46], [46, 46, 46, 46], [46, 46], [46, 45, 45, 45], [45, 46, 45], [46, 45, 46, 46], [45, 45], [45, 46], [45, 45, 45], [46, 45, 45, 46], [45, 45, 46, 45], [46, 45, 46], [46, 46, 46], [45], [46, 46, 45], [46, 46, 46, 45], [46, 45, 45], [45, 46, 46, 45], [45, 46, 45, 45], [45, 45, 46, 46]] : List (List UInt8)).getD ((IntKind.wrap .u8 (a0 - 65)).toNat) default).length) - 0) 0 ([] : List Int) = z1 at hR
 refine AWP.range (zeb_b1 a0) (fun i1 s1 => ⟨[(4, .str (([[46, 45], [45, 46, 46, 46], [45, 46, 45, 46], [45, 46, 46], [46], [46, 46, 45, 46], [45, 45, 46], [46, 46, 46, 46], [46, 46], [46, 45, 45, 45], [45, 46, 45], [46, 45, 46, 46], [45, 45], [45, 46], [45, 45, 45], [46, 45, 45, 46], [45, 45, 46, 45], [46, 45, 46], [46, 46, 46], [45], [46, 46, 45], [46, 46, 46, 45], [46, 45, 45], [45, 46, 46, 45], [45, 46, 45, 45], [45, 45, 46, 46]] : List (List UInt8)).getD ((IntKind.wrap .u8 (a0 - 65)).toNat) default)), (5, .ref 0 1 0 s1.length), (6, .int .i64 (i1 : Int))], [.arr 2 1 s1.length (fun j => eIi64 (s1.getD j default))]⟩) (fun i1 s1 => s1.length ≤ ([] : List Int).length + 1 * i1 ∧ s1.length ≤ i1) (((([[46, 45], [45, 46, 46, 46], [45, 46, 45, 46], [45, 46, 46], [46], [46, 46, 45, 46], [45, 45, 46], [46, 46, 46, 46], [46, 46], [46, 45, 45, 45], [45, 46, 45], [46, 45, 46, 46], [45, 45], [45, 46], [45, 45, 45], [46, 45, 45, 46], [45, 45, 46, 45], [46, 45, 46], [46, 46, 46], [45], [46, 46, 45], [46, 46, 46, 45], [46, 45, 45], [45, 46, 46, 45], [45, 46, 45, 45], [45, 45, 46, 46]] : List (List UInt8)).getD ((IntKind.wrap .u8 (a0 - 65)).toNat) default).length)) 0 ([] : List Int) [1] hz1 ot wt sm ?_
 clear hz1
 intro i1 s1 hi1 hW1 hz1
 refine rS ?_
 refine AWP.cond rfl (fun hb => ?_) (fun hb => ?_)
 ·have hlt1 : i1 < ((([[46, 45], [45, 46, 46, 46], [45, 46, 45, 46], [45, 46, 46], [46], [46, 46, 45, 46], [45, 45, 46], [46, 46, 46, 46], [46, 46], [46, 45, 45, 45], [45, 46, 45], [46, 45, 46, 46], [45, 45], [45, 46], [45, 45, 45], [46, 45, 45, 46], [45, 45, 46, 45], [46, 45, 46], [46, 46, 46], [45], [46, 46, 45], [46, 46, 46, 45], [46, 45, 45], [45, 46, 46, 45], [45, 46, 45, 45], [45, 45, 46, 46]] : List (List UInt8)).getD ((IntKind.wrap .u8 (a0 - 65)).toNat) default).length) := ot
  rw [loopR_lt hlt1] at hz1; simp only [zeb_b1] at hz1
  refine rS ?_
  refine AWP.cond rfl (fun hb => ?_) (fun hb => ?_)
  ·simp only [hb, cond_true] at hz1
   iterate 2 refine rS ?_
   exact ⟨_, [2], hlt1, wt, hz1, sm⟩
  ·simp only [hb, cond_false] at hz1
   iterate 2 refine rS ?_
   exact ⟨_, [2], hlt1, wt, hz1, sm⟩
 ·obtain rfl : i1 = ((([[46, 45], [45, 46, 46, 46], [45, 46, 45, 46], [45, 46, 46], [46], [46, 46, 45, 46], [45, 45, 46], [46, 46, 46, 46], [46, 46], [46, 45, 45, 45], [45, 46, 45], [46, 45, 46, 46], [45, 45], [45, 46], [45, 45, 45], [46, 45, 45, 46], [45, 45, 46, 45], [46, 45, 46], [46, 46, 46], [45], [46, 46, 45], [46, 46, 46, 45], [46, 45, 45], [45, 46, 46, 45], [45, 46, 45, 45], [45, 45, 46, 46]] : List (List UInt8)).getD ((IntKind.wrap .u8 (a0 - 65)).toNat) default).length) := ot
  rw [loopR_ge (Nat.le_refl _)] at hz1; subst hz1; dsimp only at hR
  refine AWP.exit ?_; refine exitTo_here ?_
  refine rS ?_
  refine AWP.ret ?_
  subst hR
  exact es
end N248
def D_zeb : DF
 | [x0] => some (ownL 2 1 eIi64 (zeb (rdI x0)), false, [wI .u8 x0, 65 ≤ (rdI x0), (rdI x0) ≤ 90])
 | _ => none
theorem D_zeb_ok : OkD Tryz.prog 248 D_zeb := by unfold D_zeb; exact dk N248.den
end Go.Ab

namespace Go.Ab
open Go Go.Proofs
theorem l05Morse_eq (a : Int) : zeb a = (codesL.getD (IntKind.wrap .u8 (a - 65)).toNat default).map (fun c => if c = 46 then (5 : Int) else 15) := by
 have h := loopR_app (zeb_b1 a) (fun j => [if ((codesL.getD (IntKind.wrap .u8 (a - 65)).toNat default).getD j 0) = 46 then (5 : Int) else 15]) (codesL.getD (IntKind.wrap .u8 (a - 65)).toNat default).length 0 [] (fun j s _ _ => by
  show (bif ((((codesL.getD (IntKind.wrap .u8 (a - 65)).toNat default).getD j 0).toNat : Int) == 46) then (.ok (s ++ [5]) : Except (List Int) (List Int)) else .ok (s ++ [15])) = _
  generalize (codesL.getD (IntKind.wrap .u8 (a - 65)).toNat default).getD j 0 = c
  by_cases hc : c = 46
  ·subst hc; rfl
  ·have : ((c.toNat : Int) == 46) = false := by
    rw [beq_eq_false_iff_ne]
    intro h
    exact hc (UInt8.toNat_inj.1 (by show c.toNat = 46; omega))
   rw [this, if_neg hc]; rfl)
 have e : zeb a = (match loopR (zeb_b1 a) (codesL.getD (IntKind.wrap .u8 (a - 65)).toNat default).length 0 ([] : List Int) with | .error e => e | .ok s1 => s1) := rfl
 rw [e, h]
 simp only [List.nil_append]
 exact flat_list _ 0 (fun c => if c = 46 then (5 : Int) else 15)
theorem morse_len (a : Int) : (zeb a).length ≤ 4 := by
 rw [l05Morse_eq, List.length_map]
 exact codeL_len _
end Go.Ab

namespace Go.Ab
open Go Go.Proofs
def zrd (a0 : Character) : Bool :=
 ((a0.Kind == 1) || (((a0.Kind == 6) || (a0.Kind == 7)) && ((a0.Group.length : Int) == 0)))
namespace N191
theorem DD : DOk Tryz.prog (Go.Ab.DD []) := DD_nil _
theorem den (a0 : Character)  : Den Tryz.prog 191 [.ep (eCharacter a0)] (.bool (zrd a0)) := by
 generalize hR : zrd a0 = r
 unfold zrd at hR
 refine di Tryz.func191 Tryz.ntmps191 Tryz.results191 ?_
 intro c hL hc hk
 obtain ⟨hL0, _⟩ := hL
 have hw0 : bwCharacter a0 := Character_lens a0 hL0
 clear hL0
 simp only [pars, Nat.zero_add]
 iterate 2 refine rS ?_
 refine AWP.ret ?_
 subst hR
 exact es
end N191
def D_zrd : DF
 | [x0] => some (.bool (zrd (rdP dCharacter x0)), false, [wP eCharacter dCharacter x0])
 | _ => none
theorem D_zrd_ok : OkD Tryz.prog 191 D_zrd := by unfold D_zrd; exact dk N191.den
end Go.Ab

namespace Go.Ab
open Go Go.Proofs
def zkd_b1 (a0 : (List Int)) (i1 : Nat) (s1 : Int) : Except (Int) (Int) :=
 .ok (IntKind.wrap .i64 (s1 + (a0.getD i1 default)))
def zkd (a0 : (List Int)) : Int :=
 (match loopR (zkd_b1 a0) (a0.length - 0) 0 0 with | .error e => e | .ok s1 => s1)
namespace N227
theorem DD : DOk Tryz.prog (Go.Ab.DD []) := DD_nil _
theorem den (a0 : (List Int))  : Den Tryz.prog 227 [encL 1 eIi64 a0] (.int .i64 (zkd a0)) := by
 generalize hR : zkd a0 = r
 unfold zkd at hR
 refine di Tryz.func227 Tryz.ntmps227 Tryz.results227 ?_
 intro c hL hc hk
 obtain ⟨hL0, _⟩ := hL
 have hw0 : a0.length < 9223372036854775808 := Nat.lt_succ_of_le (lens_encL hL0).1
 clear hL0
 simp only [pars, Nat.zero_add]
 iterate 3 refine rS ?_
 refine AWP.block ?_
 generalize hz1 : loopR (zkd_b1 a0) (a0.length - 0) 0 0 = z1 at hR
 refine AWP.range (zkd_b1 a0) (fun i1 s1 => ⟨[(0, encL 1 eIi64 a0), (3, .int .i64 s1), (4, .int .i64 (i1 : Int))], []⟩) (fun i1 s1 => True) (a0.length) 0 0 [] hz1 ot wt sm ?_
 clear hz1
 intro i1 s1 hi1 hW1 hz1
 refine rS ?_
 refine AWP.cond rfl (fun hb => ?_) (fun hb => ?_)
 ·have hlt1 : i1 < a0.length := ot
  rw [loopR_lt hlt1] at hz1; simp only [zkd_b1] at hz1
  iterate 2 refine rS ?_
  exact ⟨_, [], hlt1, wt, hz1, sm⟩
 ·obtain rfl : i1 = a0.length := ot
  rw [loopR_ge (Nat.le_refl _)] at hz1; subst hz1; dsimp only at hR
  refine AWP.exit ?_; refine exitTo_here ?_
  refine rS ?_
  refine AWP.ret ?_
  subst hR
  exact es
end N227
def D_zkd : DF
 | [x0] => some (.int .i64 (zkd (rdL dIi64 x0)), false, [wL 1 eIi64 dIi64 x0])
 | _ => none
theorem D_zkd_ok : OkD Tryz.prog 227 D_zkd := by unfold D_zkd; exact dk N227.den
end Go.Ab

namespace Go.Ab
open Go Go.Proofs
def zfc (a0 : Int) : Int :=
 (bif (a0 == 2) then 10 else (bif (a0 == 4) then 15 else (bif (a0 == 5) then 20 else (bif (a0 == 7) then 3 else 5))))
namespace N249
theorem DD : DOk Tryz.prog (Go.Ab.DD []) := DD_nil _
theorem den (a0 : Int)  : Den Tryz.prog 249 [.int .i64 a0] (.int .i64 (zfc a0)) := by
 generalize hR : zfc a0 = r
 unfold zfc at hR
 refine di Tryz.func249 Tryz.ntmps249 Tryz.results249 ?_
 intro c hL hc hk
 clear hL
 simp only [pars, Nat.zero_add]
 iterate 3 refine rS ?_
 refine AWP.cond rfl (fun hb => ?_) (fun hb => ?_)
 ·replace hR := ct hR
  refine rS ?_
  refine AWP.ret ?_
  subst hR
  exact es
 ·replace hR := cf hR
  refine rS ?_
  refine AWP.cond rfl (fun hb => ?_) (fun hb => ?_)
  ·replace hR := ct hR
   refine rS ?_
   refine AWP.ret ?_
   subst hR
   exact es
  ·replace hR := cf hR
   refine rS ?_
   refine AWP.cond rfl (fun hb => ?_) (fun hb => ?_)
   ·replace hR := ct hR
    refine rS ?_
    refine AWP.ret ?_
    subst hR
    exact es
   ·replace hR := cf hR
    refine rS ?_
    refine AWP.cond rfl (fun hb => ?_) (fun hb => ?_)
    ·replace hR := ct hR
     refine rS ?_
     refine AWP.ret ?_
     subst hR
     exact es
    ·replace hR := cf hR
     refine rS ?_
     refine AWP.ret ?_
     subst hR
     exact es
end N249
def D_zfc : DF
 | [x0] => some (.int .i64 (zfc (rdI x0)), false, [wI .i64 x0])
 | _ => none
theorem D_zfc_ok : OkD Tryz.prog 249 D_zfc := by unfold D_zfc; exact dk N249.den
end Go.Ab

namespace Go.Ab
open Go Go.Proofs
def zld (a0 : Int) : Int :=
 (bif (a0 == 2) then 10 else (bif (a0 == 5) then 20 else (bif (a0 == 7) then 2 else 5)))
namespace N250
theorem DD : DOk Tryz.prog (Go.Ab.DD []) := DD_nil _
theorem den (a0 : Int)  : Den Tryz.prog 250 [.int .i64 a0] (.int .i64 (zld a0)) := by
 generalize hR : zld a0 = r
 unfold zld at hR
 refine di Tryz.func250 Tryz.ntmps250 Tryz.results250 ?_
 intro c hL hc hk
 clear hL
 simp only [pars, Nat.zero_add]
 iterate 3 refine rS ?_
 refine AWP.cond rfl (fun hb => ?_) (fun hb => ?_)
 ·replace hR := ct hR
  refine rS ?_
  refine AWP.ret ?_
  subst hR
  exact es
 ·replace hR := cf hR
  refine rS ?_
  refine AWP.cond rfl (fun hb => ?_) (fun hb => ?_)
  ·replace hR := ct hR
   refine rS ?_
   refine AWP.ret ?_
   subst hR
   exact es
  ·replace hR := cf hR
   refine rS ?_
   refine AWP.cond rfl (fun hb => ?_) (fun hb => ?_)
   ·replace hR := ct hR
    refine rS ?_
    refine AWP.ret ?_
    subst hR
    exact es
   ·replace hR := cf hR
    refine rS ?_
    refine AWP.ret ?_
    subst hR
    exact es
end N250
def D_zld : DF
 | [x0] => some (.int .i64 (zld (rdI x0)), false, [wI .i64 x0])
 | _ => none
theorem D_zld_ok : OkD Tryz.prog 250 D_zld := by unfold D_zld; exact dk N250.den
end Go.Ab

namespace Go.Ab
open Go Go.Proofs
def zl_b1 (a0 : Character) (i1 : Nat) (s1 : List Int) : Except ((List Int)) (List Int) :=
 (bif decide (0 < (i1 : Int)) then .ok ((s1 ++ ([5] : List Int)) ++ ([((zeb ((a0.Letter.getD 0 0).toNat : Int)).getD i1 default)] : List Int)) else .ok (s1 ++ ([((zeb ((a0.Letter.getD 0 0).toNat : Int)).getD i1 default)] : List Int)))
def zl_b3 (a0 : Character) (i2 : Nat) (s2 : List Int) (i3 : Nat) (s3 : List Int) : Except ((List Int)) (List Int) :=
 (bif decide (0 < (i3 : Int)) then .ok ((s3 ++ ([(zfc a0.Kind)] : List Int)) ++ ([(zld a0.Kind)] : List Int)) else (bif decide (0 < (i2 : Int)) then .ok ((s3 ++ ([IntKind.wrap .i64 ((zfc a0.Kind) + 20)] : List Int)) ++ ([(zld a0.Kind)] : List Int)) else .ok (s3 ++ ([(zld a0.Kind)] : List Int))))
def zl_b2 (a0 : Character) (i2 : Nat) (s2 : List Int) : Except ((List Int)) (List Int) :=
 (match loopR (zl_b3 a0 i2 s2) (((([1] : List Int).getD i2 default)).toNat - 0) 0 s2 with | .error e => .error e | .ok s3 => .ok s3)
def zl_b5 (a0 : Character) (i4 : Nat) (s4 : List Int) (i5 : Nat) (s5 : List Int) : Except ((List Int)) (List Int) :=
 (bif decide (0 < (i5 : Int)) then .ok ((s5 ++ ([(zfc a0.Kind)] : List Int)) ++ ([(zld a0.Kind)] : List Int)) else (bif decide (0 < (i4 : Int)) then .ok ((s5 ++ ([IntKind.wrap .i64 ((zfc a0.Kind) + 20)] : List Int)) ++ ([(zld a0.Kind)] : List Int)) else .ok (s5 ++ ([(zld a0.Kind)] : List Int))))
def zl_b4 (a0 : Character) (i4 : Nat) (s4 : List Int) : Except ((List Int)) (List Int) :=
 (match loopR (zl_b5 a0 i4 s4) (((a0.Group.getD i4 default)).toNat - 0) 0 s4 with | .error e => .error e | .ok s5 => .ok s5)
def zl (a0 : Character) : (List Int) :=
 (bif (a0.Kind == 8) then (match loopR (zl_b1 a0) (((zeb ((a0.Letter.getD 0 0).toNat : Int)).length) - 0) 0 ([] : List Int) with | .error e => e | .ok s1 => s1) else (bif ((a0.Group.length : Int) == 0) then (match loopR (zl_b2 a0) (1 - 0) 0 ([] : List Int) with | .error e => e | .ok s2 => (bif (a0.Letter == [76]) then s2 ++ ([(zfc a0.Kind), 20] : List Int) else s2)) else (match loopR (zl_b4 a0) (a0.Group.length - 0) 0 ([] : List Int) with | .error e => e | .ok s4 => (bif (a0.Letter == [76]) then s4 ++ ([(zfc a0.Kind), 20] : List Int) else s4))))
namespace N228
theorem DD : DOk Tryz.prog (Go.Ab.DD [(248, dP D_zeb), (249, dP D_zfc), (250, dP D_zld)]) := DD_cons D_zeb_ok.e <| DD_cons D_zfc_ok.e <| DD_cons D_zld_ok.e <| DD_nil _
theorem dn : type_of% (And.intro @D_zeb.eq_1 <| And.intro @D_zfc.eq_1 <| @D_zld.eq_1) := by and_intros <;> intros <;> rfl
theorem o2 {p : Prop} (h : p := by (first | (and_intros <;> first | decide | omega | (simp; (first | done | fail)) | (rw [IntKind.wrap_i64]; have := hg9 i4; omega) | (rw [IntKind.wrap_i64]; have := hg1 i2; omega) | (rw [IntKind.wrap_i64]; omega) | (intro i hi; exact app1_get _ _ i hi) | (intro i hi; exact app11_get _ _ _ i hi))); first | done | fail) : p := h
theorem o3 {p : Prop} (h : p := by (first | (refine ⟨⟨Nat.le_refl _, fun i hi => app2_pure _ _ _ i hi⟩, .inl fun i hi => by rw [app2_get _ _ _ i hi]; simp [NoBorL, NoBor], by simp, fun i hi => by rw [app2_get _ _ _ i hi]; exact simOL_refl _⟩)); first | done | fail) : p := h
theorem lx {p : Prop} (h : p := by (exact lxx); first | done | fail) : p := h
set_option maxHeartbeats 1000000 in
set_option maxRecDepth 20000 in
theorem den (a0 : Character) (hb0 : bdCharacter a0) (hp0 : a0.Group.length ≤ 4) (hp1 : ∀ v ∈ a0.Group, v ≤ 9) (hp2 : a0.Kind = 8 → a0.Letter.length = 1 ∧ 65 ≤ (a0.Letter.getD 0 0).toNat ∧ (a0.Letter.getD 0 0).toNat ≤ 90) : Den Tryz.prog 228 [.ep (eCharacter a0)] (ownL 2 1 eIi64 (zl a0)) := by
 generalize hR : zl a0 = r
 unfold zl at hR
 refine di Tryz.func228 Tryz.ntmps228 Tryz.results228 ?_
 intro c hL hc hk
 obtain ⟨hL0, _⟩ := hL
 have hw0 : bwCharacter a0 := Character_lens a0 hL0
 clear hL0
 simp only [pars, Nat.zero_add]
 have hg9 : ∀ i : Nat, a0.Group.getD i default ≤ 9 := fun i => getD_le hp1 i
 have hs9 := morse_len ((a0.Letter.getD 0 0).toNat : Int)
 have hg1 : ∀ i : Nat, ([1] : List Int).getD i default ≤ 9 := fun i => getD_le (by simp) i
 iterate 3 refine rS ?_
 refine AWP.cond rfl (fun hb => ?_) (fun hb => ?_)
 ·replace hR := ct hR
  iterate 2 refine rS ?_
  refine AWP.block ?_
  generalize hz1 : loopR (zl_b1 a0) (((zeb ((a0.Letter.getD 0 0).toNat : Int)).length) - 0) 0 ([] : List Int) = z1 at hR
  refine AWP.range (zl_b1 a0) (fun i1 s1 => ⟨[(3, .ref 0 1 0 s1.length), (4, .ref 1 1 0 ((zeb ((a0.Letter.getD 0 0).toNat : Int)).length)), (5, .int .i64 (i1 : Int))], [.arr 2 1 s1.length (fun j => eIi64 (s1.getD j default)), .arr 2 1 (zeb ((a0.Letter.getD 0 0).toNat : Int)).length (fun j => eIi64 ((zeb ((a0.Letter.getD 0 0).toNat : Int)).getD j default))]⟩) (fun i1 s1 => s1.length ≤ ([] : List Int).length + 2 * i1 ∧ s1.length ≤ 2 * i1) (((zeb ((a0.Letter.getD 0 0).toNat : Int)).length)) 0 ([] : List Int) [0, 1] hz1 ot wt sm ?_
  clear hz1
  intro i1 s1 hi1 hW1 hz1
  refine rS ?_
  refine AWP.cond rfl (fun hb => ?_) (fun hb => ?_)
  ·have hlt1 : i1 < ((zeb ((a0.Letter.getD 0 0).toNat : Int)).length) := ot
   rw [loopR_lt hlt1] at hz1; simp only [zl_b1] at hz1
   refine rS ?_
   refine AWP.cond rfl (fun hb => ?_) (fun hb => ?_)
   ·simp only [hb, cond_true] at hz1
    iterate 3 refine rS ?_
    exact ⟨_, [5, 1], hlt1, wt, hz1, sm⟩
   ·simp only [hb, cond_false] at hz1
    iterate 2 refine rS ?_
    exact ⟨_, [3, 1], hlt1, wt, hz1, sm⟩
  ·obtain rfl : i1 = ((zeb ((a0.Letter.getD 0 0).toNat : Int)).length) := ot
   rw [loopR_ge (Nat.le_refl _)] at hz1; subst hz1; dsimp only at hR
   refine AWP.exit ?_; refine exitTo_here ?_
   refine rS ?_
   refine AWP.ret ?_
   subst hR
   exact es
 ·replace hR := cf hR
  iterate 2 refine rS ?_
  refine AWP.cond rfl (fun hb => ?_) (fun hb => ?_)
  ·replace hR := ct hR
   iterate 2 refine rS ?_
   refine AWP.block ?_
   generalize hz2 : loopR (zl_b2 a0) (1 - 0) 0 ([] : List Int) = z2 at hR
   refine AWP.range (zl_b2 a0) (fun i2 s2 => ⟨[(0, .ep (eCharacter a0)), (3, .ref 0 1 0 s2.length), (6, .ref 1 1 0 1), (7, .int .i64 (i2 : Int))], [.arr 2 1 s2.length (fun j => eIi64 (s2.getD j default)), .arr 2 1 ([1] : List Int).length (fun j => eIi64 (([1] : List Int).getD j default))]⟩) (fun i2 s2 => s2.length ≤ 18 * i2) (1) 0 ([] : List Int) [0, 1] hz2 ot wt sm ?_
   clear hz2
   intro i2 s2 hi2 hW2 hz2
   refine rS ?_
   refine AWP.cond rfl (fun hb => ?_) (fun hb => ?_)
   ·have hlt2 : i2 < 1 := ot
    rw [loopR_lt hlt2] at hz2; simp only [zl_b2] at hz2
    refine rS ?_
    refine AWP.block ?_
    generalize hz3 : loopR (zl_b3 a0 i2 s2) (((([1] : List Int).getD i2 default)).toNat - 0) 0 s2 = z3 at hz2
    refine AWP.range (zl_b3 a0 i2 s2) (fun i3 s3 => ⟨[(0, .ep (eCharacter a0)), (3, .ref 0 1 0 s3.length), (6, .ref 1 1 0 1), (7, .int .i64 (i2 : Int)), (8, .int .i64 (i3 : Int))], [.arr 2 1 s3.length (fun j => eIi64 (s3.getD j default)), .arr 2 1 ([1] : List Int).length (fun j => eIi64 (([1] : List Int).getD j default))]⟩) (fun i3 s3 => s3.length ≤ s2.length + 2 * i3 ∧ s3.length ≤ 18 * i2 + 2 * i3) (((([1] : List Int).getD i2 default)).toNat) 0 s2 [0, 1] hz3 ot wt sm ?_
    clear hz3
    intro i3 s3 hi3 hW3 hz3
    refine rS ?_
    refine AWP.cond rfl (fun hb => ?_) (fun hb => ?_)
    ·have hlt3 : i3 < ((([1] : List Int).getD i2 default)).toNat := ot
     rw [loopR_lt hlt3] at hz3; simp only [zl_b3] at hz3
     refine rS ?_
     refine AWP.cond rfl (fun hb => ?_) (fun hb => ?_)
     ·simp only [hb, cond_true] at hz3
      iterate 3 refine rS ?_
      exact ⟨_, [5, 1], hlt3, wt, hz3, sm⟩
     ·simp only [hb, cond_false] at hz3
      refine rS ?_
      refine AWP.cond rfl (fun hb => ?_) (fun hb => ?_)
      ·simp only [hb, cond_true] at hz3
       iterate 3 refine rS ?_
       exact ⟨_, [5, 1], hlt3, wt, hz3, sm⟩
      ·simp only [hb, cond_false] at hz3
       iterate 2 refine rS ?_
       exact ⟨_, [3, 1], hlt3, wt, hz3, sm⟩
    ·obtain rfl : i3 = ((([1] : List Int).getD i2 default)).toNat := ot
     rw [loopR_ge (Nat.le_refl _)] at hz3; subst hz3; dsimp only at hz2
     refine AWP.exit ?_; refine exitTo_here ?_
     refine rS ?_
     exact ⟨_, [0, 1], hlt2, by (have h9 := hg1 i2; omega), hz2, sm⟩
   ·obtain rfl : i2 = 1 := ot
    rw [loopR_ge (Nat.le_refl _)] at hz2; subst hz2; dsimp only at hR
    refine AWP.exit ?_; refine exitTo_here ?_
    refine rS ?_
    refine AWP.cond rfl (fun hb => ?_) (fun hb => ?_)
    ·replace hR := ct hR
     iterate 2 refine rS ?_
     refine AWP.ret ?_
     subst hR
     exact es
    ·replace hR := cf hR
     refine rS ?_
     refine AWP.ret ?_
     subst hR
     exact es
  ·replace hR := cf hR
   refine rS ?_
   refine AWP.block ?_
   refine AWP.lensS 6 rfl (fun hLn4 => ?_)
   generalize hz4 : loopR (zl_b4 a0) (a0.Group.length - 0) 0 ([] : List Int) = z4 at hR
   refine AWP.range (zl_b4 a0) (fun i4 s4 => ⟨[(0, .ep (eCharacter a0)), (3, .ref 0 1 0 s4.length), (6, encL 1 eIi64 a0.Group), (7, .int .i64 (i4 : Int))], [.arr 2 1 s4.length (fun j => eIi64 (s4.getD j default))]⟩) (fun i4 s4 => s4.length ≤ 18 * i4) (a0.Group.length) 0 ([] : List Int) [0] hz4 ot wt sm ?_
   clear hz4
   intro i4 s4 hi4 hW4 hz4
   refine rS ?_
   refine AWP.cond rfl (fun hb => ?_) (fun hb => ?_)
   ·have hlt4 : i4 < a0.Group.length := ot
    rw [loopR_lt hlt4] at hz4; simp only [zl_b4] at hz4
    refine rS ?_
    refine AWP.block ?_
    generalize hz5 : loopR (zl_b5 a0 i4 s4) (((a0.Group.getD i4 default)).toNat - 0) 0 s4 = z5 at hz4
    refine AWP.range (zl_b5 a0 i4 s4) (fun i5 s5 => ⟨[(0, .ep (eCharacter a0)), (3, .ref 0 1 0 s5.length), (6, encL 1 eIi64 a0.Group), (7, .int .i64 (i4 : Int)), (8, .int .i64 (i5 : Int))], [.arr 2 1 s5.length (fun j => eIi64 (s5.getD j default))]⟩) (fun i5 s5 => s5.length ≤ s4.length + 2 * i5 ∧ s5.length ≤ 18 * i4 + 2 * i5) (((a0.Group.getD i4 default)).toNat) 0 s4 [0] hz5 ot wt sm ?_
    clear hz5
    intro i5 s5 hi5 hW5 hz5
    refine rS ?_
    refine AWP.cond rfl (fun hb => ?_) (fun hb => ?_)
    ·have hlt5 : i5 < ((a0.Group.getD i4 default)).toNat := ot
     rw [loopR_lt hlt5] at hz5; simp only [zl_b5] at hz5
     refine rS ?_
     refine AWP.cond rfl (fun hb => ?_) (fun hb => ?_)
     ·simp only [hb, cond_true] at hz5
      iterate 3 refine rS ?_
      exact ⟨_, [4], hlt5, wt, hz5, sm⟩
     ·simp only [hb, cond_false] at hz5
      refine rS ?_
      refine AWP.cond rfl (fun hb => ?_) (fun hb => ?_)
      ·simp only [hb, cond_true] at hz5
       iterate 3 refine rS ?_
       exact ⟨_, [4], hlt5, wt, hz5, sm⟩
      ·simp only [hb, cond_false] at hz5
       iterate 2 refine rS ?_
       exact ⟨_, [2], hlt5, wt, hz5, sm⟩
    ·obtain rfl : i5 = ((a0.Group.getD i4 default)).toNat := ot
     rw [loopR_ge (Nat.le_refl _)] at hz5; subst hz5; dsimp only at hz4
     refine AWP.exit ?_; refine exitTo_here ?_
     refine rS ?_
     exact ⟨_, [0], hlt4, by (have h9 := hg9 i4; omega), hz4, sm⟩
   ·obtain rfl : i4 = a0.Group.length := ot
    rw [loopR_ge (Nat.le_refl _)] at hz4; subst hz4; dsimp only at hR
    refine AWP.exit ?_; refine exitTo_here ?_
    refine rS ?_
    refine AWP.cond rfl (fun hb => ?_) (fun hb => ?_)
    ·replace hR := ct hR
     iterate 2 refine rS ?_
     refine AWP.ret ?_
     subst hR
     exact es
    ·replace hR := cf hR
     refine rS ?_
     refine AWP.ret ?_
     subst hR
     exact es
end N228
def D_zl : DF
 | [x0] => some (ownL 2 1 eIi64 (zl (rdP dCharacter x0)), false, [wP eCharacter dCharacter x0, bdCharacter (rdP dCharacter x0), (rdP dCharacter x0).Group.length ≤ 4, ∀ v ∈ (rdP dCharacter x0).Group, v ≤ 9, (rdP dCharacter x0).Kind = 8 → (rdP dCharacter x0).Letter.length = 1 ∧ 65 ≤ ((rdP dCharacter x0).Letter.getD 0 0).toNat ∧ ((rdP dCharacter x0).Letter.getD 0 0).toNat ≤ 90])
 | _ => none
theorem D_zl_ok : OkD Tryz.prog 228 D_zl := by unfold D_zl; exact dk N228.den
end Go.Ab

namespace Go.Ab
open Go Go.Proofs
def zjf (a0 : Character) : Int :=
 (bif (a0.Kind == 6) then 20 else (bif (a0.Kind == 7) then 10 else (bif (a0.Kind == 8) then 30 else (bif decide (1 < (a0.Group.length : Int)) then IntKind.wrap .i64 ((IntKind.wrap .i64 ((zfc a0.Kind) + 5)) + 20) else IntKind.wrap .i64 ((zfc a0.Kind) + 5)))))
namespace N229
theorem DD : DOk Tryz.prog (Go.Ab.DD [(249, dP D_zfc)]) := DD_cons D_zfc_ok.e <| DD_nil _
theorem dn : type_of% (@D_zfc.eq_1) := by and_intros <;> intros <;> rfl
theorem den (a0 : Character)  : Den Tryz.prog 229 [.ep (eCharacter a0)] (.int .i64 (zjf a0)) := by
 generalize hR : zjf a0 = r
 unfold zjf at hR
 refine di Tryz.func229 Tryz.ntmps229 Tryz.results229 ?_
 intro c hL hc hk
 obtain ⟨hL0, _⟩ := hL
 have hw0 : bwCharacter a0 := Character_lens a0 hL0
 clear hL0
 simp only [pars, Nat.zero_add]
 iterate 3 refine rS ?_
 refine AWP.cond rfl (fun hb => ?_) (fun hb => ?_)
 ·replace hR := ct hR
  refine rS ?_
  refine AWP.ret ?_
  subst hR
  exact es
 ·replace hR := cf hR
  refine rS ?_
  refine AWP.cond rfl (fun hb => ?_) (fun hb => ?_)
  ·replace hR := ct hR
   refine rS ?_
   refine AWP.ret ?_
   subst hR
   exact es
  ·replace hR := cf hR
   refine rS ?_
   refine AWP.cond rfl (fun hb => ?_) (fun hb => ?_)
   ·replace hR := ct hR
    refine rS ?_
    refine AWP.ret ?_
    subst hR
    exact es
   ·replace hR := cf hR
    iterate 2 refine rS ?_
    refine AWP.cond rfl (fun hb => ?_) (fun hb => ?_)
    ·replace hR := ct hR
     iterate 2 refine rS ?_
     refine AWP.ret ?_
     subst hR
     exact es
    ·replace hR := cf hR
     refine rS ?_
     refine AWP.ret ?_
     subst hR
     exact es
end N229
def D_zjf : DF
 | [x0] => some (.int .i64 (zjf (rdP dCharacter x0)), false, [wP eCharacter dCharacter x0])
 | _ => none
theorem D_zjf_ok : OkD Tryz.prog 229 D_zjf := by unfold D_zjf; exact dk N229.den
end Go.Ab

namespace Go.Ab
open Go Go.Proofs
def zve (a0 : Character) : Int :=
 (bif (zrd a0) then 0 else (bif (a0.Kind == 3) then 20 else IntKind.wrap .i64 ((zkd (zl a0)) + (zjf a0))))
namespace N192
theorem DD : DOk Tryz.prog (Go.Ab.DD [(191, dP D_zrd), (227, dP D_zkd), (228, dP D_zl), (229, dP D_zjf)]) := DD_cons D_zrd_ok.e <| DD_cons D_zkd_ok.e <| DD_cons D_zl_ok.e <| DD_cons D_zjf_ok.e <| DD_nil _
theorem dn : type_of% (And.intro @D_zrd.eq_1 <| And.intro @D_zkd.eq_1 <| And.intro @D_zl.eq_1 <| @D_zjf.eq_1) := by and_intros <;> intros <;> rfl
theorem den (a0 : Character) (hb0 : bdCharacter a0) (hp0 : a0.Group.length ≤ 4) (hp1 : ∀ v ∈ a0.Group, v ≤ 9) (hp2 : a0.Kind = 8 → a0.Letter.length = 1 ∧ 65 ≤ (a0.Letter.getD 0 0).toNat ∧ (a0.Letter.getD 0 0).toNat ≤ 90) : Den Tryz.prog 192 [.ep (eCharacter a0)] (.int .i64 (zve a0)) := by
 generalize hR : zve a0 = r
 unfold zve at hR
 refine di Tryz.func192 Tryz.ntmps192 Tryz.results192 ?_
 intro c hL hc hk
 obtain ⟨hL0, _⟩ := hL
 have hw0 : bwCharacter a0 := Character_lens a0 hL0
 clear hL0
 simp only [pars, Nat.zero_add]
 iterate 2 refine rS ?_
 refine AWP.cond rfl (fun hb => ?_) (fun hb => ?_)
 ·replace hR := ct hR
  refine rS ?_
  refine AWP.ret ?_
  subst hR
  exact es
 ·replace hR := cf hR
  refine rS ?_
  refine AWP.cond rfl (fun hb => ?_) (fun hb => ?_)
  ·replace hR := ct hR
   refine rS ?_
   refine AWP.ret ?_
   subst hR
   exact es
  ·replace hR := cf hR
   refine rS ?_
   refine AWP.ret ?_
   subst hR
   exact es
end N192
def D_zve : DF
 | [x0] => some (.int .i64 (zve (rdP dCharacter x0)), false, [wP eCharacter dCharacter x0, bdCharacter (rdP dCharacter x0), (rdP dCharacter x0).Group.length ≤ 4, ∀ v ∈ (rdP dCharacter x0).Group, v ≤ 9, (rdP dCharacter x0).Kind = 8 → (rdP dCharacter x0).Letter.length = 1 ∧ 65 ≤ ((rdP dCharacter x0).Letter.getD 0 0).toNat ∧ ((rdP dCharacter x0).Letter.getD 0 0).toNat ≤ 90])
 | _ => none
theorem D_zve_ok : OkD Tryz.prog 192 D_zve := by unfold D_zve; exact dk N192.den
end Go.Ab

namespace Go.Ab
open Go Go.Proofs
def zwe (a0 : Sector) : Bool :=
 ((zh a0.From 0 359) && (zh a0.To 0 359))
namespace N230
theorem DD : DOk Tryz.prog (Go.Ab.DD [(137, dP D_zh)]) := DD_cons D_zh_ok.e <| DD_nil _
theorem dn : type_of% (@D_zh.eq_1) := by and_intros <;> intros <;> rfl
theorem ol : type_of% (@zh.eq_1) := @zh.eq_1
theorem den (a0 : Sector)  : Den Tryz.prog 230 [.ep (eSector a0)] (.bool (zwe a0)) := by
 generalize hR : zwe a0 = r
 unfold zwe at hR
 refine di Tryz.func230 Tryz.ntmps230 Tryz.results230 ?_
 intro c hL hc hk
 obtain ⟨hL0, _⟩ := hL
 have hw0 : bwSector a0 := Sector_lens a0 hL0
 clear hL0
 simp only [pars, Nat.zero_add]
 iterate 2 refine rS ?_
 refine AWP.ret ?_
 subst hR
 exact es
end N230
def D_zwe : DF
 | [x0] => some (.bool (zwe (rdP dSector x0)), false, [wP eSector dSector x0])
 | _ => none
theorem D_zwe_ok : OkD Tryz.prog 230 D_zwe := by unfold D_zwe; exact dk N230.den
end Go.Ab

namespace Go.Ab
open Go Go.Proofs
def zxe (a0 : (List UInt8)) : Bool :=
 ((((a0 == [87]) || (a0 == [82])) || (a0 == [71])) || (a0 == [89]))
namespace N231
theorem DD : DOk Tryz.prog (Go.Ab.DD []) := DD_nil _
theorem den (a0 : (List UInt8))  : Den Tryz.prog 231 [.str a0] (.bool (zxe a0)) := by
 generalize hR : zxe a0 = r
 unfold zxe at hR
 refine di Tryz.func231 Tryz.ntmps231 Tryz.results231 ?_
 intro c hL hc hk
 obtain ⟨hL0, _⟩ := hL
 have hw0 : a0.length < 9223372036854775808 := Nat.lt_succ_of_le hL0
 clear hL0
 simp only [pars, Nat.zero_add]
 iterate 2 refine rS ?_
 refine AWP.ret ?_
 subst hR
 exact es
end N231
def D_zxe : DF
 | [x0] => some (.bool (zxe (rdS x0)), false, [wS x0])
 | _ => none
theorem D_zxe_ok : OkD Tryz.prog 231 D_zxe := by unfold D_zxe; exact dk N231.den
end Go.Ab

namespace Go.Ab
open Go Go.Proofs
def zdd (a0 : Sector) : Bool :=
 ((zwe a0) && (zxe a0.Color))
namespace N193
theorem DD : DOk Tryz.prog (Go.Ab.DD [(230, dP D_zwe), (231, dP D_zxe)]) := DD_cons D_zwe_ok.e <| DD_cons D_zxe_ok.e <| DD_nil _
theorem dn : type_of% (And.intro @D_zwe.eq_1 <| @D_zxe.eq_1) := by and_intros <;> intros <;> rfl
theorem den (a0 : Sector)  : Den Tryz.prog 193 [.ep (eSector a0)] (.bool (zdd a0)) := by
 generalize hR : zdd a0 = r
 unfold zdd at hR
 refine di Tryz.func193 Tryz.ntmps193 Tryz.results193 ?_
 intro c hL hc hk
 obtain ⟨hL0, _⟩ := hL
 have hw0 : bwSector a0 := Sector_lens a0 hL0
 clear hL0
 simp only [pars, Nat.zero_add]
 iterate 2 refine rS ?_
 refine AWP.ret ?_
 subst hR
 exact es
end N193
def D_zdd : DF
 | [x0] => some (.bool (zdd (rdP dSector x0)), false, [wP eSector dSector x0])
 | _ => none
theorem D_zdd_ok : OkD Tryz.prog 193 D_zdd := by unfold D_zdd; exact dk N193.den
end Go.Ab

namespace Go.Ab
open Go Go.Proofs
def zye (a0 : Sector) : Int :=
 (bif (((IntKind.wrap .i64 ((IntKind.wrap .i64 (a0.To - a0.From)) + 360)).tmod 360) == 0) then 360 else (IntKind.wrap .i64 ((IntKind.wrap .i64 (a0.To - a0.From)) + 360)).tmod 360)
namespace N194
theorem DD : DOk Tryz.prog (Go.Ab.DD []) := DD_nil _
theorem den (a0 : Sector)  : Den Tryz.prog 194 [.ep (eSector a0)] (.int .i64 (zye a0)) := by
 generalize hR : zye a0 = r
 unfold zye at hR
 refine di Tryz.func194 Tryz.ntmps194 Tryz.results194 ?_
 intro c hL hc hk
 obtain ⟨hL0, _⟩ := hL
 have hw0 : bwSector a0 := Sector_lens a0 hL0
 clear hL0
 simp only [pars, Nat.zero_add]
 refine rS ?_
 refine rD 11 ?_
 refine rS ?_
 refine AWP.cond rfl (fun hb => ?_) (fun hb => ?_)
 ·replace hR := ct hR
  refine rS ?_
  refine AWP.ret ?_
  subst hR
  exact es
 ·replace hR := cf hR
  refine rS ?_
  refine AWP.ret ?_
  subst hR
  exact es
end N194
def D_zye : DF
 | [x0] => some (.int .i64 (zye (rdP dSector x0)), false, [wP eSector dSector x0])
 | _ => none
theorem D_zye_ok : OkD Tryz.prog 194 D_zye := by unfold D_zye; exact dk N194.den
end Go.Ab

namespace Go.Ab
open Go Go.Proofs
def zkb_b1 (a0 : (List Sector)) (i1 : Nat) (s1 : Unit) : Except (Bool) (Unit) :=
 (bif ((!(zdd (a0.getD i1 default))) || (decide (0 < (i1 : Int)) && decide (((a0.getD i1 default).From) ≤ ((a0.getD ((IntKind.wrap .i64 ((i1 : Int) - 1)).toNat) default).From)))) then .error false else .ok ())
def zkb_b2 (a0 : (List Sector)) (s1 : Unit) (s2 : Int) : Except (Sum (Bool) (Int)) (Int) :=
 (bif (decide (s2 < (a0.length : Int)) && decide (1 < (a0.length : Int))) then (bif decide (((IntKind.wrap .i64 ((IntKind.wrap .i64 (((a0.getD (((IntKind.wrap .i64 (s2 + 1)).tmod (a0.length : Int)).toNat) default).From) - ((a0.getD ((s2).toNat) default).From))) + 360)).tmod 360) < (zye (a0.getD ((s2).toNat) default))) then .error (.inl false) else .ok (IntKind.wrap .i64 (s2 + 1))) else .error (.inr s2))
def zkb (a0 : (List Sector)) : Bool :=
 (bif decide (12 < (a0.length : Int)) then false else (match loopR (zkb_b1 a0) (a0.length - 0) 0 () with | .error e => e | .ok s1 => (match loopW (zkb_b2 a0 s1) ((a0.length - ((0 : Int)).toNat) + 1) 0 with | .error (.inl e) => e | .error (.inr s2) => true | .ok _ => default)))
namespace N153
theorem DD : DOk Tryz.prog (Go.Ab.DD [(193, dP D_zdd), (194, dP D_zye)]) := DD_cons D_zdd_ok.e <| DD_cons D_zye_ok.e <| DD_nil _
theorem dn : type_of% (And.intro @D_zdd.eq_1 <| @D_zye.eq_1) := by and_intros <;> intros <;> rfl
theorem o0 {p : Prop} (h : p := by (first | (have hb2 := hb; simp only [Bool.and_eq_true, decide_eq_true_eq] at hb2; have h9 := nxt_ix hW2.1 hb2.1 (by omega); and_intros <;> first | omega | exact h9.1 | exact h9.2)); first | done | fail) : p := h
theorem den (a0 : (List Sector))  : Den Tryz.prog 153 [encL 3 eSector a0] (.bool (zkb a0)) := by
 generalize hR : zkb a0 = r
 unfold zkb at hR
 refine di Tryz.func153 Tryz.ntmps153 Tryz.results153 ?_
 intro c hL hc hk
 obtain ⟨hL0, _⟩ := hL
 have hw0 : a0.length < 9223372036854775808 := Nat.lt_succ_of_le (lens_encL hL0).1
 have hw1 : ∀ v ∈ a0, bwSector v := fun v hv => Sector_lens v ((lens_encL hL0).2 v hv)
 clear hL0
 simp only [pars, Nat.zero_add]
 iterate 3 refine rS ?_
 refine AWP.cond rfl (fun hb => ?_) (fun hb => ?_)
 ·replace hR := ct hR
  refine rS ?_
  refine AWP.ret ?_
  subst hR
  exact es
 ·replace hR := cf hR
  refine rS ?_
  refine AWP.block ?_
  generalize hz1 : loopR (zkb_b1 a0) (a0.length - 0) 0 () = z1 at hR
  refine AWP.range (zkb_b1 a0) (fun i1 s1 => ⟨[(0, encL 3 eSector a0), (3, .int .i64 (a0.length : Int)), (4, .int .i64 (i1 : Int))], []⟩) (fun i1 s1 => True) (a0.length) 0 () [] hz1 ot wt sm ?_
  clear hz1
  intro i1 s1 hi1 hW1 hz1
  refine rS ?_
  refine AWP.cond rfl (fun hb => ?_) (fun hb => ?_)
  ·have hlt1 : i1 < a0.length := ot
   rw [loopR_lt hlt1] at hz1; simp only [zkb_b1] at hz1
   refine rD 23 ?_
   refine AWP.cond rfl (fun hb => ?_) (fun hb => ?_)
   ·simp only [hb, cond_true] at hz1
    refine rS ?_
    refine AWP.ret ?_
    subst hz1
    dsimp only at hR
    subst hR
    exact es
   ·simp only [hb, cond_false] at hz1
    refine rS ?_
    exact ⟨_, [], hlt1, wt, hz1, sm⟩
  ·obtain rfl : i1 = a0.length := ot
   rw [loopR_ge (Nat.le_refl _)] at hz1; subst hz1; dsimp only at hR
   refine AWP.exit ?_; refine exitTo_here ?_
   refine rS ?_
   refine AWP.block ?_
   generalize hz2 : loopW (zkb_b2 a0 s1) ((a0.length - ((0 : Int)).toNat) + 1) 0 = z2 at hR
   refine AWP.whileW (zkb_b2 a0 s1) (fun s2 => ⟨[(0, encL 3 eSector a0), (3, .int .i64 (a0.length : Int)), (5, .int .i64 s2)], []⟩) (fun s2 => 0 ≤ s2 ∧ s2 ≤ a0.length) (fun s2 => a0.length - (s2).toNat) ((a0.length - ((0 : Int)).toNat) + 1) 0 [] hz2 m0 wt sm ?_
   clear hz2
   intro s2 k2 hW2 hm2 hz2
   simp only [zkb_b2] at hz2
   refine rS ?_
   refine AWP.cond rfl (fun hb => ?_) (fun hb => ?_)
   ·simp only [hb, cond_true] at hz2
    refine rD 21 ?_
    refine AWP.cond rfl (fun hb => ?_) (fun hb => ?_)
    ·simp only [hb, cond_true] at hz2
     refine rS ?_
     refine AWP.ret ?_
     subst hz2
     dsimp only at hR
     subst hR
     exact es
    ·simp only [hb, cond_false] at hz2
     refine rS ?_
     exact ⟨_, [], ms, wt, hz2, sm⟩
   ·simp only [hb, cond_false] at hz2
    refine AWP.exit ?_
    refine exitTo_here ?_
    subst hz2; dsimp only at hR
    refine rS ?_
    refine AWP.ret ?_
    subst hR
    exact es
end N153
def D_zkb : DF
 | [x0] => some (.bool (zkb (rdL dSector x0)), false, [wL 3 eSector dSector x0])
 | _ => none
theorem D_zkb_ok : OkD Tryz.prog 153 D_zkb := by unfold D_zkb; exact dk N153.den
end Go.Ab

namespace Go.Ab
open Go Go.Proofs
def zrb_b2 (a0 : (List Sector)) (i1 : Nat) (s1 : List UInt8) (i2 : Nat) (s2 : List UInt8) : Except (Sum ((List UInt8)) (List UInt8)) (List UInt8) :=
 (bif (((a0.getD i2 default).Color) == ([[87], [82], [71], [89]].getD i1 default)) then .error (.inr (s2 ++ ([[87], [82], [71], [89]].getD i1 default))) else .ok s2)
def zrb_b1 (a0 : (List Sector)) (i1 : Nat) (s1 : List UInt8) : Except ((List UInt8)) (List UInt8) :=
 (match loopR (zrb_b2 a0 i1 s1) (a0.length - 0) 0 s1 with | .error (.inl e) => .error e | .error (.inr s2) => .ok s2 | .ok s2 => .ok s2)
def zrb (a0 : (List Sector)) : (List UInt8) :=
 (match loopR (zrb_b1 a0) (4 - 0) 0 [] with | .error e => e | .ok s1 => s1)
namespace N154
theorem DD : DOk Tryz.prog (Go.Ab.DD []) := DD_nil _
theorem o0 {p : Prop} (h : p := by (first | (have h4 := hq4 i1; have h1 := hW1; have h2 := hW2; and_intros <;> omega)); first | done | fail) : p := h
theorem lx {p : Prop} (h : p := by (exact lxx); first | done | fail) : p := h
theorem den (a0 : (List Sector)) (hb0 : a0.length < 1099511627776) (hb1 : ∀ v ∈ a0, bdSector v) : Den Tryz.prog 154 [encL 3 eSector a0] (.str (zrb a0)) := by
 generalize hR : zrb a0 = r
 unfold zrb at hR
 refine di Tryz.func154 Tryz.ntmps154 Tryz.results154 ?_
 intro c hL hc hk
 obtain ⟨hL0, _⟩ := hL
 have hw0 : a0.length < 9223372036854775808 := Nat.lt_succ_of_le (lens_encL hL0).1
 have hw1 : ∀ v ∈ a0, bwSector v := fun v hv => Sector_lens v ((lens_encL hL0).2 v hv)
 clear hL0
 simp only [pars, Nat.zero_add]
 have hq4 : ∀ i : Nat, (([[87], [82], [71], [89]] : List (List UInt8)).getD i default).length ≤ 1 := fun i => by rcases i with _ | _ | _ | _ | i <;> first | exact Nat.le_refl _ | exact Nat.zero_le _
 iterate 4 refine rS ?_
 refine AWP.block ?_
 generalize hz1 : loopR (zrb_b1 a0) (4 - 0) 0 [] = z1 at hR
 refine AWP.range (zrb_b1 a0) (fun i1 s1 => ⟨[(0, encL 3 eSector a0), (3, .str s1), (4, .ref 0 1 0 4), (5, .int .i64 (i1 : Int))], [.arr 9 1 [[87], [82], [71], [89]].length (fun j => eS ([[87], [82], [71], [89]].getD j default))]⟩) (fun i1 s1 => s1.length ≤ i1) (4) 0 [] [0] hz1 ot (by (simp)) sm ?_
 clear hz1
 intro i1 s1 hi1 hW1 hz1
 refine rS ?_
 refine AWP.cond rfl (fun hb => ?_) (fun hb => ?_)
 ·have hlt1 : i1 < 4 := ot
  rw [loopR_lt hlt1] at hz1; simp only [zrb_b1] at hz1
  refine rS ?_
  refine AWP.block ?_
  generalize hz2 : loopR (zrb_b2 a0 i1 s1) (a0.length - 0) 0 s1 = z2 at hz1
  refine AWP.range (zrb_b2 a0 i1 s1) (fun i2 s2 => ⟨[(0, encL 3 eSector a0), (3, .str s2), (4, .ref 0 1 0 4), (5, .int .i64 (i1 : Int)), (6, .int .i64 (i2 : Int))], [.arr 9 1 [[87], [82], [71], [89]].length (fun j => eS ([[87], [82], [71], [89]].getD j default))]⟩) (fun i2 s2 => s2.length ≤ i1) (a0.length) 0 s1 [0] hz2 ot (by (exact hW1)) sm ?_
  clear hz2
  intro i2 s2 hi2 hW2 hz2
  refine rS ?_
  refine AWP.cond rfl (fun hb => ?_) (fun hb => ?_)
  ·have hlt2 : i2 < a0.length := ot
   rw [loopR_lt hlt2] at hz2; simp only [zrb_b2] at hz2
   refine rD 9 ?_
   refine AWP.cond rfl (fun hb => ?_) (fun hb => ?_)
   ·simp only [hb, cond_true] at hz2
    refine rS ?_
    refine AWP.exit ?_
    refine exitTo_there rfl ?_
    refine exitTo_here ?_
    subst hz2; dsimp only at hz1
    refine rS ?_
    exact ⟨_, [0], hlt1, by (have h4 := hq4 i1; simp only [ln] at *; omega), hz1, sm⟩
   ·simp only [hb, cond_false] at hz2
    refine rS ?_
    exact ⟨_, [0], hlt2, by (first | exact hW2 | assumption), hz2, sm⟩
  ·obtain rfl : i2 = a0.length := ot
   rw [loopR_ge (Nat.le_refl _)] at hz2; subst hz2; dsimp only at hz1
   refine AWP.exit ?_; refine exitTo_here ?_
   refine rS ?_
   exact ⟨_, [0], hlt1, by (have h4 := hq4 i1; simp only [ln] at *; omega), hz1, sm⟩
 ·obtain rfl : i1 = 4 := ot
  rw [loopR_ge (Nat.le_refl _)] at hz1; subst hz1; dsimp only at hR
  refine AWP.exit ?_; refine exitTo_here ?_
  refine rS ?_
  refine AWP.ret ?_
  subst hR
  exact es
end N154
def D_zrb : DF
 | [x0] => some (.str (zrb (rdL dSector x0)), false, [wL 3 eSector dSector x0, (rdL dSector x0).length < 1099511627776, ∀ v ∈ (rdL dSector x0), bdSector v])
 | _ => none
theorem D_zrb_ok : OkD Tryz.prog 154 D_zrb := by unfold D_zrb; exact dk N154.den
end Go.Ab

namespace Go.Ab
open Go Go.Proofs
def zrc (a0 : Int) : Bool :=
 (zh a0 1 9)
namespace N220
theorem DD : DOk Tryz.prog (Go.Ab.DD [(137, dP D_zh)]) := DD_cons D_zh_ok.e <| DD_nil _
theorem dn : type_of% (@D_zh.eq_1) := by and_intros <;> intros <;> rfl
theorem ol : type_of% (@zh.eq_1) := @zh.eq_1
theorem den (a0 : Int)  : Den Tryz.prog 220 [.int .i64 a0] (.bool (zrc a0)) := by
 generalize hR : zrc a0 = r
 unfold zrc at hR
 refine di Tryz.func220 Tryz.ntmps220 Tryz.results220 ?_
 intro c hL hc hk
 clear hL
 simp only [pars, Nat.zero_add]
 iterate 2 refine rS ?_
 refine AWP.ret ?_
 subst hR
 exact es
end N220
def D_zrc : DF
 | [x0] => some (.bool (zrc (rdI x0)), false, [wI .i64 x0])
 | _ => none
theorem D_zrc_ok : OkD Tryz.prog 220 D_zrc := by unfold D_zrc; exact dk N220.den
end Go.Ab

namespace Go.Ab
open Go Go.Proofs
def zke (a0 : Int) : (List UInt8) :=
 (([[], [82], [71], [66, 89], [66, 89, 66], [89, 66], [89, 66, 89], [66, 82, 66], [82, 87], [89]] : List (List UInt8)).getD ((a0).toNat) default)
namespace N221
theorem DD : DOk Tryz.prog (Go.Ab.DD []) := DD_nil _
theorem lx {p : Prop} (h : p := by (exact lxx); first | done | fail) : p := h
theorem den (a0 : Int) (hp0 : 0 ≤ a0) (hp1 : a0 ≤ 9) : Den Tryz.prog 221 [.int .i64 a0] (.str (zke a0)) := by
 generalize hR : zke a0 = r
 unfold zke at hR
 refine di Tryz.func221 Tryz.ntmps221 Tryz.results221 ?_
 intro c hL hc hk
 clear hL
 simp only [pars, Nat.zero_add]
 iterate 2 refine rS ?_
 refine AWP.ret ?_
 subst hR
 exact es
end N221
def D_zke : DF
 | [x0] => some (.str (zke (rdI x0)), false, [wI .i64 x0, 0 ≤ (rdI x0), (rdI x0) ≤ 9])
 | _ => none
theorem D_zke_ok : OkD Tryz.prog 221 D_zke := by unfold D_zke; exact dk N221.den
end Go.Ab
