/- A part of a proof: walks of functions and lemmas of our own. No conditions. -/
import Derived.Test.YtaneiddiakjgdaaGreatDoorVAl
import Derived.Test.YtaneiddiakjgdaaGreatDoorVAo
set_option linter.unusedSectionVars false
set_option linter.unusedVariables false
set_option linter.unusedSimpArgs false
set_option maxHeartbeats 1000000
namespace Go.Ab
open Go Go.Proofs
def zkb (a0 : Int) (a1 : Int) : Bool :=
 decide (a0 ≤ a1)
namespace N112
theorem DD : DOk Tryz.prog (Go.Ab.DD []) := DD_nil _
theorem den (a0 : Int) (a1 : Int)  : Den Tryz.prog 112 [.int .i64 a0, .int .i64 a1] (.bool (zkb a0 a1)) := by
 generalize hR : zkb a0 a1 = r
 unfold zkb at hR
 refine di Tryz.func112 Tryz.ntmps112 Tryz.results112 ?_
 intro c hL hc hk
 clear hL
 simp only [pars, Nat.zero_add]
 iterate 2 refine rS ?_
 refine AWP.ret ?_
 subst hR
 exact es
end N112
def D_zkb : DF
 | [x0, x1] => some (.bool (zkb (rdI x0) (rdI x1)), false, [wI .i64 x0, wI .i64 x1])
 | _ => none
theorem D_zkb_ok : OkD Tryz.prog 112 D_zkb := by unfold D_zkb; exact dk N112.den
end Go.Ab

namespace Go.Ab
open Go Go.Proofs
def zug (a0 : Int) : Bool :=
 (decide (48 ≤ a0) && decide (a0 ≤ 57))
namespace N195
theorem DD : DOk Tryz.prog (Go.Ab.DD []) := DD_nil _
theorem den (a0 : Int)  : Den Tryz.prog 195 [.int .u8 a0] (.bool (zug a0)) := by
 generalize hR : zug a0 = r
 unfold zug at hR
 refine di Tryz.func195 Tryz.ntmps195 Tryz.results195 ?_
 intro c hL hc hk
 clear hL
 simp only [pars, Nat.zero_add]
 iterate 2 refine rS ?_
 refine AWP.ret ?_
 subst hR
 exact es
end N195
def D_zug : DF
 | [x0] => some (.bool (zug (rdI x0)), false, [wI .u8 x0])
 | _ => none
theorem D_zug_ok : OkD Tryz.prog 195 D_zug := by unfold D_zug; exact dk N195.den
end Go.Ab

namespace Go.Ab
open Go Go.Proofs
def zee_b1 (a0 : (List UInt8)) (i1 : Nat) (s1 : Unit) : Except (Bool) (Unit) :=
 (bif ((!(decide (97 ≤ ((a0.getD i1 0).toNat : Int)) && decide (((a0.getD i1 0).toNat : Int) ≤ 122))) && (((i1 : Int) == 0) || (!(zug ((a0.getD i1 0).toNat : Int))))) then .error false else .ok ())
def zee (a0 : (List UInt8)) : Bool :=
 (match loopR (zee_b1 a0) (a0.length - 0) 0 () with | .error e => e | .ok s1 => ((a0 != []) && (zkb (a0.length : Int) 10)))
namespace N159
theorem DD : DOk Tryz.prog (Go.Ab.DD [(112, dP D_zkb), (195, dP D_zug)]) := DD_cons D_zkb_ok.e <| DD_cons D_zug_ok.e <| DD_nil _
theorem dn : type_of% (And.intro @D_zkb.eq_1 <| @D_zug.eq_1) := by and_intros <;> intros <;> rfl
theorem den (a0 : (List UInt8))  : Den Tryz.prog 159 [.str a0] (.bool (zee a0)) := by
 generalize hR : zee a0 = r
 unfold zee at hR
 refine di Tryz.func159 Tryz.ntmps159 Tryz.results159 ?_
 intro c hL hc hk
 obtain ⟨hL0, _⟩ := hL
 have hw0 : a0.length < 9223372036854775808 := Nat.lt_succ_of_le hL0
 clear hL0
 simp only [pars, Nat.zero_add]
 iterate 2 refine rS ?_
 refine AWP.block ?_
 generalize hz1 : loopR (zee_b1 a0) (a0.length - 0) 0 () = z1 at hR
 refine AWP.range (zee_b1 a0) (fun i1 s1 => ⟨[(0, .str a0), (3, .int .i64 (i1 : Int))], []⟩) (fun i1 s1 => True) (a0.length) 0 () [] hz1 ot wt sm ?_
 clear hz1
 intro i1 s1 hi1 hW1 hz1
 refine rS ?_
 refine AWP.cond rfl (fun hb => ?_) (fun hb => ?_)
 ·have hlt1 : i1 < a0.length := ot
  rw [loopR_lt hlt1] at hz1; simp only [zee_b1] at hz1
  iterate 2 refine rS ?_
  refine AWP.cond rfl (fun hb => ?_) (fun hb => ?_)
  ·simp only [hb, cond_true] at hz1
   refine rS ?_
   refine AWP.ret ?_
   subst hz1
   dsimp only at hR
   subst hR
   exact es
  ·simp only [hb, cond_false] at hz1
   refine rS ?_
   exact ⟨_, [], hlt1, wt, hz1, sm⟩
 ·obtain rfl : i1 = a0.length := ot
  rw [loopR_ge (Nat.le_refl _)] at hz1; subst hz1; dsimp only at hR
  refine AWP.exit ?_; refine exitTo_here ?_
  refine rS ?_
  refine AWP.ret ?_
  subst hR
  exact es
end N159
def D_zee : DF
 | [x0] => some (.bool (zee (rdS x0)), false, [wS x0])
 | _ => none
theorem D_zee_ok : OkD Tryz.prog 159 D_zee := by unfold D_zee; exact dk N159.den
end Go.Ab

namespace Go.Ab
open Go Go.Proofs
def zd (a0 : Int) (a1 : Int) (a2 : Int) : Bool :=
 (decide (a1 ≤ a0) && decide (a0 ≤ a2))
namespace N139
theorem DD : DOk Tryz.prog (Go.Ab.DD []) := DD_nil _
theorem den (a0 : Int) (a1 : Int) (a2 : Int)  : Den Tryz.prog 139 [.int .i64 a0, .int .i64 a1, .int .i64 a2] (.bool (zd a0 a1 a2)) := by
 generalize hR : zd a0 a1 a2 = r
 unfold zd at hR
 refine di Tryz.func139 Tryz.ntmps139 Tryz.results139 ?_
 intro c hL hc hk
 clear hL
 simp only [pars, Nat.zero_add]
 iterate 2 refine rS ?_
 refine AWP.ret ?_
 subst hR
 exact es
end N139
def D_zd : DF
 | [x0, x1, x2] => some (.bool (zd (rdI x0) (rdI x1) (rdI x2)), false, [wI .i64 x0, wI .i64 x1, wI .i64 x2])
 | _ => none
theorem D_zd_ok : OkD Tryz.prog 139 D_zd := by unfold D_zd; exact dk N139.den
end Go.Ab

namespace Go.Ab
open Go Go.Proofs
def zjd_b1 (a0 : (List Int)) (i1 : Nat) (s1 : Int) : Except (Bool) (Int) :=
 (bif (!(zd (a0.getD i1 default) 1 9)) then .error false else .ok (IntKind.wrap .i64 (s1 + (a0.getD i1 default))))
def zjd (a0 : (List Int)) : Bool :=
 (match loopR (zjd_b1 a0) (a0.length - 0) 0 0 with | .error e => e | .ok s1 => (((zkb (a0.length : Int) 4) && decide (s1 ≤ 12)) && (!(zic a0 ([1] : List Int)))))
namespace N255
theorem DD : DOk Tryz.prog (Go.Ab.DD [(112, dP D_zkb), (139, dP D_zd), (256, dP D_zic)]) := DD_cons D_zkb_ok.e <| DD_cons D_zd_ok.e <| DD_cons D_zic_ok.e <| DD_nil _
theorem dn : type_of% (And.intro @D_zkb.eq_1 <| And.intro @D_zd.eq_1 <| @D_zic.eq_1) := by and_intros <;> intros <;> rfl
theorem ol : type_of% (@zd.eq_1) := @zd.eq_1
theorem den (a0 : (List Int))  : Den Tryz.prog 255 [encL 1 eIi64 a0] (.bool (zjd a0)) := by
 generalize hR : zjd a0 = r
 unfold zjd at hR
 refine di Tryz.func255 Tryz.ntmps255 Tryz.results255 ?_
 intro c hL hc hk
 obtain ⟨hL0, _⟩ := hL
 have hw0 : a0.length < 9223372036854775808 := Nat.lt_succ_of_le (lens_encL hL0).1
 clear hL0
 simp only [pars, Nat.zero_add]
 iterate 3 refine rS ?_
 refine AWP.block ?_
 generalize hz1 : loopR (zjd_b1 a0) (a0.length - 0) 0 0 = z1 at hR
 refine AWP.range (zjd_b1 a0) (fun i1 s1 => ⟨[(0, encL 1 eIi64 a0), (3, .int .i64 s1), (6, encL 1 eIi64 a0), (7, .int .i64 (a0.length : Int)), (8, .int .i64 (i1 : Int))], []⟩) (fun i1 s1 => True) (a0.length) 0 0 [] hz1 ot wt sm ?_
 clear hz1
 intro i1 s1 hi1 hW1 hz1
 refine rS ?_
 refine AWP.seq ?_
 refine AWP.cond rfl (fun hb => ?_) (fun hb => ?_)
 ·have hlt1 : i1 < a0.length := ot
  rw [loopR_lt hlt1] at hz1; simp only [zjd_b1] at hz1
  iterate 2 refine rS ?_
  refine AWP.cond rfl (fun hb => ?_) (fun hb => ?_)
  ·simp only [hb, cond_true] at hz1
   refine rS ?_
   refine AWP.ret ?_
   subst hz1
   dsimp only at hR
   subst hR
   exact es
  ·simp only [hb, cond_false] at hz1
   iterate 2 refine rS ?_
   exact ⟨_, [], hlt1, wt, hz1, sm⟩
 ·obtain rfl : i1 = a0.length := ot
  rw [loopR_ge (Nat.le_refl _)] at hz1; subst hz1; dsimp only at hR
  refine AWP.exit ?_; refine exitTo_here ?_
  refine rS ?_
  refine AWP.ret ?_
  subst hR
  exact es
end N255
def D_zjd : DF
 | [x0] => some (.bool (zjd (rdL dIi64 x0)), false, [wL 1 eIi64 dIi64 x0])
 | _ => none
theorem D_zjd_ok : OkD Tryz.prog 255 D_zjd := by unfold D_zjd; exact dk N255.den
end Go.Ab

namespace Go.Ab
open Go Go.Proofs
def zbd_b1 (a0 : (List UInt8)) (i1 : Nat) (s1 : Int) : Except (Bool) (Int) :=
 (bif decide ((zoe [87, 82, 71, 89] ((a0.getD i1 0).toNat : Int)) ≤ s1) then .error false else .ok (zoe [87, 82, 71, 89] ((a0.getD i1 0).toNat : Int)))
def zbd (a0 : (List UInt8)) : Bool :=
 (match loopR (zbd_b1 a0) (a0.length - 0) 0 (-1) with | .error e => e | .ok s1 => (zd (a0.length : Int) 1 3))
namespace N235
theorem DD : DOk Tryz.prog (Go.Ab.DD [(139, dP D_zd), (254, dP D_zoe)]) := DD_cons D_zd_ok.e <| DD_cons D_zoe_ok.e <| DD_nil _
theorem dn : type_of% (And.intro @D_zd.eq_1 <| @D_zoe.eq_1) := by and_intros <;> intros <;> rfl
theorem ol : type_of% (@zd.eq_1) := @zd.eq_1
theorem den (a0 : (List UInt8))  : Den Tryz.prog 235 [.str a0] (.bool (zbd a0)) := by
 generalize hR : zbd a0 = r
 unfold zbd at hR
 refine di Tryz.func235 Tryz.ntmps235 Tryz.results235 ?_
 intro c hL hc hk
 obtain ⟨hL0, _⟩ := hL
 have hw0 : a0.length < 9223372036854775808 := Nat.lt_succ_of_le hL0
 clear hL0
 simp only [pars, Nat.zero_add]
 iterate 3 refine rS ?_
 refine AWP.block ?_
 generalize hz1 : loopR (zbd_b1 a0) (a0.length - 0) 0 (-1) = z1 at hR
 refine AWP.range (zbd_b1 a0) (fun i1 s1 => ⟨[(0, .str a0), (3, .int .i64 s1), (4, .int .i64 (i1 : Int))], []⟩) (fun i1 s1 => True) (a0.length) 0 (-1) [] hz1 ot wt sm ?_
 clear hz1
 intro i1 s1 hi1 hW1 hz1
 refine rS ?_
 refine AWP.cond rfl (fun hb => ?_) (fun hb => ?_)
 ·have hlt1 : i1 < a0.length := ot
  rw [loopR_lt hlt1] at hz1; simp only [zbd_b1] at hz1
  iterate 2 refine rS ?_
  refine AWP.cond rfl (fun hb => ?_) (fun hb => ?_)
  ·simp only [hb, cond_true] at hz1
   refine rS ?_
   refine AWP.ret ?_
   subst hz1
   dsimp only at hR
   subst hR
   exact es
  ·simp only [hb, cond_false] at hz1
   iterate 2 refine rS ?_
   exact ⟨_, [], hlt1, wt, hz1, sm⟩
 ·obtain rfl : i1 = a0.length := ot
  rw [loopR_ge (Nat.le_refl _)] at hz1; subst hz1; dsimp only at hR
  refine AWP.exit ?_; refine exitTo_here ?_
  refine rS ?_
  refine AWP.ret ?_
  subst hR
  exact es
end N235
def D_zbd : DF
 | [x0] => some (.bool (zbd (rdS x0)), false, [wS x0])
 | _ => none
theorem D_zbd_ok : OkD Tryz.prog 235 D_zbd := by unfold D_zbd; exact dk N235.den
end Go.Ab

namespace Go.Ab
open Go Go.Proofs
def zqb (a0 : (List UInt8)) : (List UInt8) :=
 (bif ((((a0.length : Int) != 1) || Op.bytesLess a0 [65]) || !(Op.bytesLess a0 [90] || a0 == [90])) then [] else ([[46, 45], [45, 46, 46, 46], [45, 46, 45, 46], [45, 46, 46], [46], [46, 46, 45, 46], [45, 45, 46], [46, 46, 46, 46], [46, 46], [46, 45, 45, 45], [45, 46, 45], [46, 45, 46, 46], [45, 45], [45, 46], [45, 45, 45], [46, 45, 45, 46], [45, 45, 46, 45], [46, 45, 46], [46, 46, 46], [45], [46, 46, 45], [46, 46, 46, 45], [46, 45, 45], [45, 46, 46, 45], [45, 46, 45, 45], [45, 45, 46, 46]] : List (List UInt8)).getD ((IntKind.wrap .u8 (((a0.getD 0 0).toNat : Int) - 65)).toNat) [])
namespace N257
theorem DD : DOk Tryz.prog (Go.Ab.DD []) := DD_nil _
theorem o0 {p : Prop} (h : p := by (first | (simp only [Bool.or_eq_false_iff, Bool.not_eq_false', Bool.or_eq_true, bne_eq_false_iff_eq] at hb; have h9 := signs_ix a0 hb; have h8 := hb.1.1; and_intros <;> omega)); first | done | fail) : p := h
theorem den (a0 : (List UInt8))  : Den Tryz.prog 257 [.str a0] (.str (zqb a0)) := by
 generalize hR : zqb a0 = r
 unfold zqb at hR
 refine di Tryz.func257 Tryz.ntmps257 Tryz.results257 ?_
 intro c hL hc hk
 obtain ⟨hL0, _⟩ := hL
 have hw0 : a0.length < 9223372036854775808 := Nat.lt_succ_of_le hL0
 clear hL0
 simp only [pars, Nat.zero_add]
 iterate 2 refine rS ?_
 refine AWP.cond rfl (fun hb => ?_) (fun hb => ?_)
 ·replace hR := ct hR
  refine rS ?_
  refine AWP.ret ?_
  subst hR
  exact es
 ·replace hR := cf hR
  refine rS ?_
  refine AWP.ret ?_
  subst hR
  exact es
end N257
def D_zqb : DF
 | [x0] => some (.str (zqb (rdS x0)), false, [wS x0])
 | _ => none
theorem D_zqb_ok : OkD Tryz.prog 257 D_zqb := by unfold D_zqb; exact dk N257.den
end Go.Ab

namespace Go.Ab
open Go Go.Proofs
def zwc (a0 : Character) : Bool :=
 (bif (a0.Kind == 1) then (((a0.Group.length : Int) == 0) && (a0.Letter == [])) else (bif (a0.Kind == 3) then (((a0.Group.length : Int) == 0) && (a0.Letter == [])) else (bif (a0.Kind == 2) then ((a0.Letter == []) && (zjd a0.Group)) else (bif (a0.Kind == 4) then ((a0.Letter == []) && (zjd a0.Group)) else (bif (a0.Kind == 5) then ((a0.Letter == []) && (zjd a0.Group)) else (bif (a0.Kind == 6) then (bif (a0.Letter == []) then (((a0.Group.length : Int) == 0) || (((a0.Group.length : Int) == 1) && (zd (a0.Group.getD 0 default) 2 9))) else ((a0.Letter == [76]) && (zic a0.Group ([6] : List Int)))) else (bif (a0.Kind == 7) then (bif (a0.Letter == []) then (((a0.Group.length : Int) == 0) || (((a0.Group.length : Int) == 1) && (zd (a0.Group.getD 0 default) 2 9))) else ((a0.Letter == [76]) && (zic a0.Group ([6] : List Int)))) else (bif (a0.Kind == 8) then (((zqb a0.Letter) != []) && ((a0.Group.length : Int) == 0)) else false))))))))
namespace N236
theorem DD : DOk Tryz.prog (Go.Ab.DD [(139, dP D_zd), (255, dP D_zjd), (256, dP D_zic), (257, dP D_zqb)]) := DD_cons D_zd_ok.e <| DD_cons D_zjd_ok.e <| DD_cons D_zic_ok.e <| DD_cons D_zqb_ok.e <| DD_nil _
theorem dn : type_of% (And.intro @D_zd.eq_1 <| And.intro @D_zjd.eq_1 <| And.intro @D_zic.eq_1 <| @D_zqb.eq_1) := by and_intros <;> intros <;> rfl
theorem ol : type_of% (@zd.eq_1) := @zd.eq_1
theorem den (a0 : Character)  : Den Tryz.prog 236 [.agg (eCharacter a0)] (.bool (zwc a0)) := by
 generalize hR : zwc a0 = r
 unfold zwc at hR
 refine di Tryz.func236 Tryz.ntmps236 Tryz.results236 ?_
 intro c hL hc hk
 obtain ⟨hL0, _⟩ := hL
 have hw0 : bwCharacter a0 := Character_lens a0 hL0
 clear hL0
 simp only [pars, Nat.zero_add]
 iterate 3 refine rS ?_
 refine AWP.cond rfl (fun hb => ?_) (fun hb => ?_)
 ·replace hR := ct hR
  refine AWP.skip ?_
  refine AWP.cond rfl (fun hb => ?_) (fun hb => ?_)
  ·refine rS ?_
   refine AWP.ret ?_
   subst hR
   exact es
  ·exfalso; simp_all
 ·replace hR := cf hR
  refine rS ?_
  refine AWP.cond rfl (fun hb => ?_) (fun hb => ?_)
  ·replace hR := ct hR
   refine rS ?_
   refine AWP.ret ?_
   subst hR
   exact es
  ·replace hR := cf hR
   refine rS ?_
   refine AWP.cond rfl (fun hb => ?_) (fun hb => ?_)
   ·replace hR := ct hR
    refine AWP.skip ?_
    refine AWP.cond rfl (fun hb => ?_) (fun hb => ?_)
    ·refine rS ?_
     refine AWP.ret ?_
     subst hR
     exact es
    ·exfalso; simp_all
   ·replace hR := cf hR
    refine rS ?_
    refine AWP.cond rfl (fun hb => ?_) (fun hb => ?_)
    ·replace hR := ct hR
     refine AWP.skip ?_
     refine AWP.cond rfl (fun hb => ?_) (fun hb => ?_)
     ·refine rS ?_
      refine AWP.ret ?_
      subst hR
      exact es
     ·exfalso; simp_all
    ·replace hR := cf hR
     refine rS ?_
     refine AWP.cond rfl (fun hb => ?_) (fun hb => ?_)
     ·replace hR := ct hR
      refine rS ?_
      refine AWP.ret ?_
      subst hR
      exact es
     ·replace hR := cf hR
      refine rS ?_
      refine AWP.cond rfl (fun hb => ?_) (fun hb => ?_)
      ·replace hR := ct hR
       refine AWP.skip ?_
       refine AWP.cond rfl (fun hb => ?_) (fun hb => ?_)
       ·refine rS ?_
        refine AWP.cond rfl (fun hb => ?_) (fun hb => ?_)
        ·replace hR := ct hR
         refine rS ?_
         refine AWP.ret ?_
         subst hR
         exact es
        ·replace hR := cf hR
         refine rS ?_
         refine AWP.ret ?_
         subst hR
         exact es
       ·exfalso; simp_all
      ·replace hR := cf hR
       refine rS ?_
       refine AWP.cond rfl (fun hb => ?_) (fun hb => ?_)
       ·replace hR := ct hR
        refine rS ?_
        refine AWP.cond rfl (fun hb => ?_) (fun hb => ?_)
        ·replace hR := ct hR
         refine rS ?_
         refine AWP.ret ?_
         subst hR
         exact es
        ·replace hR := cf hR
         refine rS ?_
         refine AWP.ret ?_
         subst hR
         exact es
       ·replace hR := cf hR
        refine rS ?_
        refine AWP.cond rfl (fun hb => ?_) (fun hb => ?_)
        ·replace hR := ct hR
         refine rS ?_
         refine AWP.ret ?_
         subst hR
         exact es
        ·replace hR := cf hR
         refine rS ?_
         refine AWP.ret ?_
         subst hR
         exact es
end N236
def D_zwc : DF
 | [x0] => some (.bool (zwc (rdG dCharacter x0)), false, [wG eCharacter dCharacter x0])
 | _ => none
theorem D_zwc_ok : OkD Tryz.prog 236 D_zwc := by unfold D_zwc; exact dk N236.den
end Go.Ab

namespace Go.Ab
open Go Go.Proofs
theorem signs_eq (a : List UInt8) : zqb a = if a.length = 1 ∧ 65 ≤ (a.getD 0 0).toNat ∧ (a.getD 0 0).toNat ≤ 90 then codesL.getD ((a.getD 0 0).toNat - 65) [] else [] := by
 unfold zqb
 by_cases h1 : a.length = 1
 ·have c1 : ((a.length : Int) != 1) = false := by rw [h1]; rfl
  rw [c1, less_sing a 65 h1, less_sing a 90 h1, eq_sing a 90 h1]
  have e1 : (65 : UInt8).toNat = 65 := rfl
  have e2 : (90 : UInt8).toNat = 90 := rfl
  rw [e1, e2]
  by_cases h2 : 65 ≤ (a.getD 0 0).toNat ∧ (a.getD 0 0).toNat ≤ 90
  ·rw [if_pos ⟨h1, h2⟩, decide_eq_false (by omega)]
   have c2 : (decide ((a.getD 0 0).toNat < 90) || decide ((a.getD 0 0).toNat = 90)) = true := by
    rw [Bool.or_eq_true, decide_eq_true_eq, decide_eq_true_eq]; omega
   rw [c2]
   simp only [Bool.or_self, Bool.not_true, cond_false]
   rw [u8_wrap _ (by omega) (by omega), show ((((a.getD 0 0).toNat : Int) - 65).toNat) = (a.getD 0 0).toNat - 65 by omega]
   rfl
  ·rw [if_neg (fun h => h2 h.2)]
   by_cases h3 : (a.getD 0 0).toNat < 65
   ·rw [decide_eq_true h3]; rfl
   ·have c2 : (decide ((a.getD 0 0).toNat < 90) || decide ((a.getD 0 0).toNat = 90)) = false := by
     rw [decide_eq_false (by omega), decide_eq_false (by omega)]; rfl
    rw [c2, decide_eq_false h3]; rfl
 ·have c1 : ((a.length : Int) != 1) = true := by rw [bne_iff_ne]; omega
  rw [c1, if_neg (fun h => h1 h.1)]
  rfl
theorem signs_len (a : List UInt8) : (zqb a).length ≤ 4 := by
 rw [signs_eq]
 split
 ·exact codeL_len _
 ·simp
theorem signs_ascii (a : List UInt8) : ∀ x ∈ zqb a, x.toNat < 128 := by
 intro x hx
 rw [signs_eq] at hx
 split at hx
 ·rw [List.getD_eq_getElem?_getD] at hx
  cases h : codesL[(a.getD 0 0).toNat - 65]? with
  | none => rw [h] at hx; simp at hx
  | some y =>
   rw [h] at hx
   rcases (codes_all y (List.mem_of_getElem? h)).2.2 x hx with e | e <;> subst e <;> decide
 ·simp at hx
end Go.Ab

namespace Go.Ab
open Go Go.Proofs
def zih (a0 : Int) : Bool :=
 ((a0 == 6) || (a0 == 7))
namespace N258
theorem DD : DOk Tryz.prog (Go.Ab.DD []) := DD_nil _
theorem den (a0 : Int)  : Den Tryz.prog 258 [.int .i64 a0] (.bool (zih a0)) := by
 generalize hR : zih a0 = r
 unfold zih at hR
 refine di Tryz.func258 Tryz.ntmps258 Tryz.results258 ?_
 intro c hL hc hk
 clear hL
 simp only [pars, Nat.zero_add]
 iterate 2 refine rS ?_
 refine AWP.ret ?_
 subst hR
 exact es
end N258
def D_zih : DF
 | [x0] => some (.bool (zih (rdI x0)), false, [wI .i64 x0])
 | _ => none
theorem D_zih_ok : OkD Tryz.prog 258 D_zih := by unfold D_zih; exact dk N258.den
end Go.Ab

namespace Go.Ab
open Go Go.Proofs
def zfe (a0 : Character) : Bool :=
 ((a0.Kind == 1) || ((zih a0.Kind) && ((a0.Group.length : Int) == 0)))
namespace N237
theorem DD : DOk Tryz.prog (Go.Ab.DD [(258, dP D_zih)]) := DD_cons D_zih_ok.e <| DD_nil _
theorem dn : type_of% (@D_zih.eq_1) := by and_intros <;> intros <;> rfl
theorem den (a0 : Character)  : Den Tryz.prog 237 [.agg (eCharacter a0)] (.bool (zfe a0)) := by
 generalize hR : zfe a0 = r
 unfold zfe at hR
 refine di Tryz.func237 Tryz.ntmps237 Tryz.results237 ?_
 intro c hL hc hk
 obtain ⟨hL0, _⟩ := hL
 have hw0 : bwCharacter a0 := Character_lens a0 hL0
 clear hL0
 simp only [pars, Nat.zero_add]
 iterate 2 refine rS ?_
 refine AWP.ret ?_
 subst hR
 exact es
end N237
def D_zfe : DF
 | [x0] => some (.bool (zfe (rdG dCharacter x0)), false, [wG eCharacter dCharacter x0])
 | _ => none
theorem D_zfe_ok : OkD Tryz.prog 237 D_zfe := by unfold D_zfe; exact dk N237.den
end Go.Ab

namespace Go.Ab
open Go Go.Proofs
def zo (a0 : Int) : (Int × Int × Int) :=
 (bif (a0 == 2) then (10, 10, 15) else (bif (a0 == 4) then (5, 15, 20) else (bif (a0 == 5) then (20, 20, 25) else (bif (a0 == 6) then (5, 5, 20) else (bif (a0 == 7) then (2, 3, 10) else (bif (a0 == 8) then (5, 5, 30) else (0, 0, 0)))))))
namespace N259
theorem DD : DOk Tryz.prog (Go.Ab.DD []) := DD_nil _
theorem den (a0 : Int)  : Den Tryz.prog 259 [.int .i64 a0] (.tup [.int .i64 ((zo a0).1), .int .i64 ((zo a0).2.1), .int .i64 ((zo a0).2.2)]) := by
 generalize hR : zo a0 = r
 unfold zo at hR
 refine di Tryz.func259 Tryz.ntmps259 Tryz.results259 ?_
 intro c hL hc hk
 clear hL
 simp only [pars, Nat.zero_add]
 iterate 3 refine rS ?_
 refine AWP.cond rfl (fun hb => ?_) (fun hb => ?_)
 ·replace hR := ct hR
  refine rS ?_
  refine AWP.ret ?_
  subst hR
  exact es
 ·replace hR := cf hR
  refine rS ?_
  refine AWP.cond rfl (fun hb => ?_) (fun hb => ?_)
  ·replace hR := ct hR
   refine rS ?_
   refine AWP.ret ?_
   subst hR
   exact es
  ·replace hR := cf hR
   refine rS ?_
   refine AWP.cond rfl (fun hb => ?_) (fun hb => ?_)
   ·replace hR := ct hR
    refine rS ?_
    refine AWP.ret ?_
    subst hR
    exact es
   ·replace hR := cf hR
    refine rS ?_
    refine AWP.cond rfl (fun hb => ?_) (fun hb => ?_)
    ·replace hR := ct hR
     refine rS ?_
     refine AWP.ret ?_
     subst hR
     exact es
    ·replace hR := cf hR
     refine rS ?_
     refine AWP.cond rfl (fun hb => ?_) (fun hb => ?_)
     ·replace hR := ct hR
      refine rS ?_
      refine AWP.ret ?_
      subst hR
      exact es
     ·replace hR := cf hR
      refine rS ?_
      refine AWP.cond rfl (fun hb => ?_) (fun hb => ?_)
      ·replace hR := ct hR
       refine rS ?_
       refine AWP.ret ?_
       subst hR
       exact es
      ·replace hR := cf hR
       refine rS ?_
       refine AWP.ret ?_
       subst hR
       exact es
end N259
def D_zo : DF
 | [x0] => some (.tup [.int .i64 ((zo (rdI x0)).1), .int .i64 ((zo (rdI x0)).2.1), .int .i64 ((zo (rdI x0)).2.2)], false, [wI .i64 x0])
 | _ => none
theorem D_zo_ok : OkD Tryz.prog 259 D_zo := by unfold D_zo; exact dk N259.den
end Go.Ab

namespace Go.Ab
open Go Go.Proofs
def zle_b1 (a0 : (List Int)) (i1 : Nat) (s1 : Int) : Except (Int) (Int) :=
 .ok (IntKind.wrap .i64 (s1 + (a0.getD i1 default)))
def zle (a0 : (List Int)) : Int :=
 (match loopR (zle_b1 a0) (a0.length - 0) 0 0 with | .error e => e | .ok s1 => s1)
namespace N260
theorem DD : DOk Tryz.prog (Go.Ab.DD []) := DD_nil _
theorem den (a0 : (List Int))  : Den Tryz.prog 260 [encL 1 eIi64 a0] (.int .i64 (zle a0)) := by
 generalize hR : zle a0 = r
 unfold zle at hR
 refine di Tryz.func260 Tryz.ntmps260 Tryz.results260 ?_
 intro c hL hc hk
 obtain ⟨hL0, _⟩ := hL
 have hw0 : a0.length < 9223372036854775808 := Nat.lt_succ_of_le (lens_encL hL0).1
 clear hL0
 simp only [pars, Nat.zero_add]
 iterate 3 refine rS ?_
 refine AWP.block ?_
 generalize hz1 : loopR (zle_b1 a0) (a0.length - 0) 0 0 = z1 at hR
 refine AWP.range (zle_b1 a0) (fun i1 s1 => ⟨[(3, .int .i64 s1), (6, encL 1 eIi64 a0), (7, .int .i64 (a0.length : Int)), (8, .int .i64 (i1 : Int))], []⟩) (fun i1 s1 => True) (a0.length) 0 0 [] hz1 ot wt sm ?_
 clear hz1
 intro i1 s1 hi1 hW1 hz1
 refine rS ?_
 refine AWP.seq ?_
 refine AWP.cond rfl (fun hb => ?_) (fun hb => ?_)
 ·have hlt1 : i1 < a0.length := ot
  rw [loopR_lt hlt1] at hz1; simp only [zle_b1] at hz1
  iterate 3 refine rS ?_
  exact ⟨_, [], hlt1, wt, hz1, sm⟩
 ·obtain rfl : i1 = a0.length := ot
  rw [loopR_ge (Nat.le_refl _)] at hz1; subst hz1; dsimp only at hR
  refine AWP.exit ?_; refine exitTo_here ?_
  refine rS ?_
  refine AWP.ret ?_
  subst hR
  exact es
end N260
def D_zle : DF
 | [x0] => some (.int .i64 (zle (rdL dIi64 x0)), false, [wL 1 eIi64 dIi64 x0])
 | _ => none
theorem D_zle_ok : OkD Tryz.prog 260 D_zle := by unfold D_zle; exact dk N260.den
end Go.Ab

namespace Go.Ab
open Go Go.Proofs
def zn_b1 (a0 : Character) (i1 : Nat) (s1 : List Int) : Except ((List Int)) (List Int) :=
 (bif decide (0 < (i1 : Int)) then (bif ((((zqb a0.Letter).getD i1 0).toNat : Int) == 45) then .ok ((s1 ++ ([(zo a0.Kind).2.1] : List Int)) ++ ([IntKind.wrap .i64 (3 * ((zo a0.Kind).1))] : List Int)) else .ok ((s1 ++ ([(zo a0.Kind).2.1] : List Int)) ++ ([(zo a0.Kind).1] : List Int))) else (bif ((((zqb a0.Letter).getD i1 0).toNat : Int) == 45) then .ok (s1 ++ ([IntKind.wrap .i64 (3 * ((zo a0.Kind).1))] : List Int)) else .ok (s1 ++ ([(zo a0.Kind).1] : List Int))))
def zn_b3 (a0 : Character) (i2 : Nat) (s2 : List Int) (i3 : Nat) (s3 : List Int) : Except ((List Int)) (List Int) :=
 (bif decide (0 < (i3 : Int)) then .ok ((s3 ++ ([(zo a0.Kind).2.1] : List Int)) ++ ([(zo a0.Kind).1] : List Int)) else (bif decide (0 < (i2 : Int)) then .ok ((s3 ++ ([IntKind.wrap .i64 (((zo a0.Kind).2.1) + 20)] : List Int)) ++ ([(zo a0.Kind).1] : List Int)) else .ok (s3 ++ ([(zo a0.Kind).1] : List Int))))
def zn_b2 (a0 : Character) (i2 : Nat) (s2 : List Int) : Except ((List Int)) (List Int) :=
 (match loopR (zn_b3 a0 i2 s2) (((([1] : List Int).getD i2 default)).toNat - 0) 0 s2 with | .error e => .error e | .ok s3 => .ok s3)
def zn_b5 (a0 : Character) (i4 : Nat) (s4 : List Int) (i5 : Nat) (s5 : List Int) : Except ((List Int)) (List Int) :=
 (bif decide (0 < (i5 : Int)) then .ok ((s5 ++ ([(zo a0.Kind).2.1] : List Int)) ++ ([(zo a0.Kind).1] : List Int)) else (bif decide (0 < (i4 : Int)) then .ok ((s5 ++ ([IntKind.wrap .i64 (((zo a0.Kind).2.1) + 20)] : List Int)) ++ ([(zo a0.Kind).1] : List Int)) else .ok (s5 ++ ([(zo a0.Kind).1] : List Int))))
def zn_b4 (a0 : Character) (i4 : Nat) (s4 : List Int) : Except ((List Int)) (List Int) :=
 (match loopR (zn_b5 a0 i4 s4) (((a0.Group.getD i4 default)).toNat - 0) 0 s4 with | .error e => .error e | .ok s5 => .ok s5)
def zn (a0 : Character) : (List Int) :=
 (bif (a0.Kind == 8) then (match loopR (zn_b1 a0) ((zqb a0.Letter).length - 0) 0 ([] : List Int) with | .error e => e | .ok s1 => s1) else (bif ((a0.Group.length : Int) == 0) then (match loopR (zn_b2 a0) (1 - 0) 0 ([] : List Int) with | .error e => e | .ok s2 => (bif (a0.Letter != []) then s2 ++ ([(zo a0.Kind).2.1, 20] : List Int) else s2)) else (match loopR (zn_b4 a0) (a0.Group.length - 0) 0 ([] : List Int) with | .error e => e | .ok s4 => (bif (a0.Letter != []) then s4 ++ ([(zo a0.Kind).2.1, 20] : List Int) else s4))))
namespace N261
theorem DD : DOk Tryz.prog (Go.Ab.DD [(257, dP D_zqb), (259, dP D_zo)]) := DD_cons D_zqb_ok.e <| DD_cons D_zo_ok.e <| DD_nil _
theorem dn : type_of% (And.intro @D_zqb.eq_1 <| @D_zo.eq_1) := by and_intros <;> intros <;> rfl
theorem o2 {p : Prop} (h : p := by (first | (and_intros <;> first | decide | omega | (simp; (first | done | fail)) | (rw [IntKind.wrap_i64]; have := hg9 i4; omega) | (rw [IntKind.wrap_i64]; have := hg1 i2; omega) | (rw [IntKind.wrap_i64]; omega) | (intro i hi; exact app1_get _ _ i hi) | (intro i hi; exact app11_get _ _ _ i hi))); first | done | fail) : p := h
theorem o3 {p : Prop} (h : p := by (first | (refine ⟨⟨Nat.le_refl _, fun i hi => app2_pure _ _ _ i hi⟩, .inl fun i hi => by rw [app2_get _ _ _ i hi]; simp [NoBorL, NoBor], by simp, fun i hi => by rw [app2_get _ _ _ i hi]; exact simOL_refl _⟩)); first | done | fail) : p := h
theorem lx {p : Prop} (h : p := by (exact lxx); first | done | fail) : p := h
set_option maxHeartbeats 1000000 in
set_option maxRecDepth 20000 in
theorem den (a0 : Character) (hb0 : bdCharacter a0) (hp0 : a0.Group.length ≤ 4) (hp1 : ∀ v ∈ a0.Group, v ≤ 9) : Den Tryz.prog 261 [.agg (eCharacter a0)] (ownL 2 1 eIi64 (zn a0)) := by
 generalize hR : zn a0 = r
 unfold zn at hR
 refine di Tryz.func261 Tryz.ntmps261 Tryz.results261 ?_
 intro c hL hc hk
 obtain ⟨hL0, _⟩ := hL
 have hw0 : bwCharacter a0 := Character_lens a0 hL0
 clear hL0
 simp only [pars, Nat.zero_add]
 have hg9 : ∀ i : Nat, a0.Group.getD i default ≤ 9 := fun i => getD_le hp1 i
 have hs9 := signs_len a0.Letter
 have hs8 := signs_ascii a0.Letter
 have hg1 : ∀ i : Nat, ([1] : List Int).getD i default ≤ 9 := fun i => getD_le (by simp) i
 iterate 3 refine rS ?_
 refine AWP.cond rfl (fun hb => ?_) (fun hb => ?_)
 ·replace hR := ct hR
  iterate 2 refine rS ?_
  refine AWP.block ?_
  refine AWP.lensT 27 rfl (fun hLn1 => ?_)
  generalize hz1 : loopR (zn_b1 a0) ((zqb a0.Letter).length - 0) 0 ([] : List Int) = z1 at hR
  refine AWP.range (zn_b1 a0) (fun i1 s1 => ⟨[(3, .int .i64 ((zo a0.Kind).1)), (4, .int .i64 ((zo a0.Kind).2.1)), (6, .ref 0 1 0 s1.length), (28, .ptr 1 0)], [.arr 2 1 s1.length (fun j => eIi64 (s1.getD j default)), .it (zqb a0.Letter) i1 (decide (i1 < (zqb a0.Letter).length))]⟩) (fun i1 s1 => s1.length ≤ ([] : List Int).length + 2 * i1 ∧ s1.length ≤ 2 * i1) ((zqb a0.Letter).length) 0 ([] : List Int) [1, 2] hz1 ot wt sm ?_
  clear hz1
  intro i1 s1 hi1 hW1 hz1
  refine AWP.seq ?_
  by_cases hlt1 : i1 < (zqb a0.Letter).length
  ·rw [loopR_lt hlt1] at hz1; simp only [zn_b1] at hz1
   rw [decide_eq_true hlt1]
   refine rS ?_
   refine AWP.seq ?_
   refine AWP.cond rfl (fun hb => ?_) (fun hb => nomatch hb)
   iterate 2 refine rS ?_
   refine AWP.cond rfl (fun hb => ?_) (fun hb => ?_)
   ·simp only [hb, cond_true] at hz1
    iterate 2 refine rS ?_
    refine AWP.cond rfl (fun hb => ?_) (fun hb => ?_)
    ·simp only [hb, cond_true] at hz1
     refine rS ?_
     exact ⟨_, [5, 1], hlt1, wt, hz1, sm⟩
    ·simp only [hb, cond_false] at hz1
     refine rS ?_
     exact ⟨_, [5, 1], hlt1, wt, hz1, sm⟩
   ·simp only [hb, cond_false] at hz1
    refine rS ?_
    refine AWP.cond rfl (fun hb => ?_) (fun hb => ?_)
    ·simp only [hb, cond_true] at hz1
     refine rS ?_
     exact ⟨_, [3, 1], hlt1, wt, hz1, sm⟩
    ·simp only [hb, cond_false] at hz1
     refine rS ?_
     exact ⟨_, [3, 1], hlt1, wt, hz1, sm⟩
  ·obtain rfl : i1 = (zqb a0.Letter).length := by omega
   rw [loopR_ge (Nat.le_refl _)] at hz1; subst hz1; dsimp only at hR
   simp only [Nat.lt_irrefl, decide_false]
   refine rS ?_
   refine AWP.seq ?_
   refine AWP.cond rfl (fun hb => nomatch hb) (fun hb => ?_)
   refine AWP.exit ?_; refine exitTo_here ?_
   refine rS ?_
   refine AWP.ret ?_
   subst hR
   exact es
 ·replace hR := cf hR
  iterate 2 refine rS ?_
  refine AWP.cond rfl (fun hb => ?_) (fun hb => ?_)
  ·replace hR := ct hR
   iterate 3 refine rS ?_
   refine AWP.block ?_
   generalize hz2 : loopR (zn_b2 a0) (1 - 0) 0 ([] : List Int) = z2 at hR
   refine AWP.range (zn_b2 a0) (fun i2 s2 => ⟨[(1, .ptr 0 0), (3, .int .i64 ((zo a0.Kind).1)), (4, .int .i64 ((zo a0.Kind).2.1)), (10, .ref 1 1 0 s2.length), (58, .ref 2 1 0 1), (59, .int .i64 1), (60, .int .i64 (i2 : Int))], [.box [.int .i64 a0.Kind, encL 1 eIi64 a0.Group, .str a0.Letter, .str a0.Colors, .int .i64 a0.Period], .arr 2 1 s2.length (fun j => eIi64 (s2.getD j default)), .arr 2 1 ([1] : List Int).length (fun j => eIi64 (([1] : List Int).getD j default))]⟩) (fun i2 s2 => s2.length ≤ 18 * i2) (1) 0 ([] : List Int) [0, 2, 1] hz2 ot wt sm ?_
   clear hz2
   intro i2 s2 hi2 hW2 hz2
   refine rS ?_
   refine AWP.seq ?_
   refine AWP.cond rfl (fun hb => ?_) (fun hb => ?_)
   ·have hlt2 : i2 < 1 := ot
    rw [loopR_lt hlt2] at hz2; simp only [zn_b2] at hz2
    iterate 2 refine rS ?_
    refine AWP.block ?_
    generalize hz3 : loopR (zn_b3 a0 i2 s2) (((([1] : List Int).getD i2 default)).toNat - 0) 0 s2 = z3 at hz2
    refine AWP.range (zn_b3 a0 i2 s2) (fun i3 s3 => ⟨[(1, .ptr 0 0), (3, .int .i64 ((zo a0.Kind).1)), (4, .int .i64 ((zo a0.Kind).2.1)), (10, .ref 1 1 0 s3.length), (11, .int .i64 (i2 : Int)), (58, .ref 2 1 0 1), (59, .int .i64 1), (60, .int .i64 (i2 : Int)), (65, .int .i64 (([1] : List Int).getD i2 default)), (66, .int .i64 (i3 : Int))], [.box [.int .i64 a0.Kind, encL 1 eIi64 a0.Group, .str a0.Letter, .str a0.Colors, .int .i64 a0.Period], .arr 2 1 s3.length (fun j => eIi64 (s3.getD j default)), .arr 2 1 ([1] : List Int).length (fun j => eIi64 (([1] : List Int).getD j default))]⟩) (fun i3 s3 => s3.length ≤ s2.length + 2 * i3 ∧ s3.length ≤ 18 * i2 + 2 * i3) (((([1] : List Int).getD i2 default)).toNat) 0 s2 [0, 1, 2] hz3 ot wt sm ?_
    clear hz3
    intro i3 s3 hi3 hW3 hz3
    refine rS ?_
    refine AWP.seq ?_
    refine AWP.cond rfl (fun hb => ?_) (fun hb => ?_)
    ·have hlt3 : i3 < ((([1] : List Int).getD i2 default)).toNat := ot
     rw [loopR_lt hlt3] at hz3; simp only [zn_b3] at hz3
     iterate 2 refine rS ?_
     refine AWP.cond rfl (fun hb => ?_) (fun hb => ?_)
     ·simp only [hb, cond_true] at hz3
      iterate 3 refine rS ?_
      exact ⟨_, [0, 6, 2], hlt3, wt, hz3, sm⟩
     ·simp only [hb, cond_false] at hz3
      refine rS ?_
      refine AWP.cond rfl (fun hb => ?_) (fun hb => ?_)
      ·simp only [hb, cond_true] at hz3
       iterate 3 refine rS ?_
       exact ⟨_, [0, 6, 2], hlt3, wt, hz3, sm⟩
      ·simp only [hb, cond_false] at hz3
       iterate 2 refine rS ?_
       exact ⟨_, [0, 4, 2], hlt3, wt, hz3, sm⟩
    ·obtain rfl : i3 = ((([1] : List Int).getD i2 default)).toNat := ot
     rw [loopR_ge (Nat.le_refl _)] at hz3; subst hz3; dsimp only at hz2
     refine AWP.exit ?_; refine exitTo_here ?_
     refine rS ?_
     exact ⟨_, [0, 1, 2], hlt2, by (have h9 := hg1 i2; omega), hz2, sm⟩
   ·obtain rfl : i2 = 1 := ot
    rw [loopR_ge (Nat.le_refl _)] at hz2; subst hz2; dsimp only at hR
    refine AWP.exit ?_; refine exitTo_here ?_
    refine rS ?_
    refine AWP.cond rfl (fun hb => ?_) (fun hb => ?_)
    ·replace hR := ct hR
     iterate 2 refine rS ?_
     refine AWP.ret ?_
     subst hR
     exact es
    ·replace hR := cf hR
     refine rS ?_
     refine AWP.ret ?_
     subst hR
     exact es
  ·replace hR := cf hR
   iterate 2 refine rS ?_
   refine AWP.block ?_
   refine AWP.lensS 9 rfl (fun hLn4 => ?_)
   generalize hz4 : loopR (zn_b4 a0) (a0.Group.length - 0) 0 ([] : List Int) = z4 at hR
   refine AWP.range (zn_b4 a0) (fun i4 s4 => ⟨[(1, .ptr 0 0), (3, .int .i64 ((zo a0.Kind).1)), (4, .int .i64 ((zo a0.Kind).2.1)), (10, .ref 1 1 0 s4.length), (58, encL 1 eIi64 a0.Group), (59, .int .i64 (a0.Group.length : Int)), (60, .int .i64 (i4 : Int))], [.box [.int .i64 a0.Kind, encL 1 eIi64 a0.Group, .str a0.Letter, .str a0.Colors, .int .i64 a0.Period], .arr 2 1 s4.length (fun j => eIi64 (s4.getD j default))]⟩) (fun i4 s4 => s4.length ≤ 18 * i4) (a0.Group.length) 0 ([] : List Int) [0, 1] hz4 ot wt sm ?_
   clear hz4
   intro i4 s4 hi4 hW4 hz4
   refine rS ?_
   refine AWP.seq ?_
   refine AWP.cond rfl (fun hb => ?_) (fun hb => ?_)
   ·have hlt4 : i4 < a0.Group.length := ot
    rw [loopR_lt hlt4] at hz4; simp only [zn_b4] at hz4
    iterate 2 refine rS ?_
    refine AWP.block ?_
    generalize hz5 : loopR (zn_b5 a0 i4 s4) (((a0.Group.getD i4 default)).toNat - 0) 0 s4 = z5 at hz4
    refine AWP.range (zn_b5 a0 i4 s4) (fun i5 s5 => ⟨[(1, .ptr 0 0), (3, .int .i64 ((zo a0.Kind).1)), (4, .int .i64 ((zo a0.Kind).2.1)), (10, .ref 1 1 0 s5.length), (11, .int .i64 (i4 : Int)), (58, encL 1 eIi64 a0.Group), (59, .int .i64 (a0.Group.length : Int)), (60, .int .i64 (i4 : Int)), (65, .int .i64 (a0.Group.getD i4 default)), (66, .int .i64 (i5 : Int))], [.box [.int .i64 a0.Kind, encL 1 eIi64 a0.Group, .str a0.Letter, .str a0.Colors, .int .i64 a0.Period], .arr 2 1 s5.length (fun j => eIi64 (s5.getD j default))]⟩) (fun i5 s5 => s5.length ≤ s4.length + 2 * i5 ∧ s5.length ≤ 18 * i4 + 2 * i5) (((a0.Group.getD i4 default)).toNat) 0 s4 [0, 1] hz5 ot wt sm ?_
    clear hz5
    intro i5 s5 hi5 hW5 hz5
    refine rS ?_
    refine AWP.seq ?_
    refine AWP.cond rfl (fun hb => ?_) (fun hb => ?_)
    ·have hlt5 : i5 < ((a0.Group.getD i4 default)).toNat := ot
     rw [loopR_lt hlt5] at hz5; simp only [zn_b5] at hz5
     iterate 2 refine rS ?_
     refine AWP.cond rfl (fun hb => ?_) (fun hb => ?_)
     ·simp only [hb, cond_true] at hz5
      iterate 3 refine rS ?_
      exact ⟨_, [0, 5], hlt5, wt, hz5, sm⟩
     ·simp only [hb, cond_false] at hz5
      refine rS ?_
      refine AWP.cond rfl (fun hb => ?_) (fun hb => ?_)
      ·simp only [hb, cond_true] at hz5
       iterate 3 refine rS ?_
       exact ⟨_, [0, 5], hlt5, wt, hz5, sm⟩
      ·simp only [hb, cond_false] at hz5
       iterate 2 refine rS ?_
       exact ⟨_, [0, 3], hlt5, wt, hz5, sm⟩
    ·obtain rfl : i5 = ((a0.Group.getD i4 default)).toNat := ot
     rw [loopR_ge (Nat.le_refl _)] at hz5; subst hz5; dsimp only at hz4
     refine AWP.exit ?_; refine exitTo_here ?_
     refine rS ?_
     exact ⟨_, [0, 1], hlt4, by (have h9 := hg9 i4; omega), hz4, sm⟩
   ·obtain rfl : i4 = a0.Group.length := ot
    rw [loopR_ge (Nat.le_refl _)] at hz4; subst hz4; dsimp only at hR
    refine AWP.exit ?_; refine exitTo_here ?_
    refine rS ?_
    refine AWP.cond rfl (fun hb => ?_) (fun hb => ?_)
    ·replace hR := ct hR
     iterate 2 refine rS ?_
     refine AWP.ret ?_
     subst hR
     exact es
    ·replace hR := cf hR
     refine rS ?_
     refine AWP.ret ?_
     subst hR
     exact es
end N261
def D_zn : DF
 | [x0] => some (ownL 2 1 eIi64 (zn (rdG dCharacter x0)), false, [wG eCharacter dCharacter x0, bdCharacter (rdG dCharacter x0), (rdG dCharacter x0).Group.length ≤ 4, ∀ v ∈ (rdG dCharacter x0).Group, v ≤ 9])
 | _ => none
theorem D_zn_ok : OkD Tryz.prog 261 D_zn := by unfold D_zn; exact dk N261.den
end Go.Ab

namespace Go.Ab
open Go Go.Proofs
def zgg (a0 : Character) : Int :=
 (bif (zfe a0) then 0 else (bif (a0.Kind == 3) then 20 else (bif decide (1 < (a0.Group.length : Int)) then IntKind.wrap .i64 ((zle (zn a0)) + (IntKind.wrap .i64 (((zo a0.Kind).2.2) + 20))) else IntKind.wrap .i64 ((zle (zn a0)) + ((zo a0.Kind).2.2)))))
namespace N238
theorem DD : DOk Tryz.prog (Go.Ab.DD [(237, dP D_zfe), (259, dP D_zo), (260, dP D_zle), (261, dP D_zn)]) := DD_cons D_zfe_ok.e <| DD_cons D_zo_ok.e <| DD_cons D_zle_ok.e <| DD_cons D_zn_ok.e <| DD_nil _
theorem dn : type_of% (And.intro @D_zfe.eq_1 <| And.intro @D_zo.eq_1 <| And.intro @D_zle.eq_1 <| @D_zn.eq_1) := by and_intros <;> intros <;> rfl
theorem den (a0 : Character) (hb0 : bdCharacter a0) (hp0 : a0.Group.length ≤ 4) (hp1 : ∀ v ∈ a0.Group, v ≤ 9) : Den Tryz.prog 238 [.agg (eCharacter a0)] (.int .i64 (zgg a0)) := by
 generalize hR : zgg a0 = r
 unfold zgg at hR
 refine di Tryz.func238 Tryz.ntmps238 Tryz.results238 ?_
 intro c hL hc hk
 obtain ⟨hL0, _⟩ := hL
 have hw0 : bwCharacter a0 := Character_lens a0 hL0
 clear hL0
 simp only [pars, Nat.zero_add]
 iterate 2 refine rS ?_
 refine AWP.cond rfl (fun hb => ?_) (fun hb => ?_)
 ·replace hR := ct hR
  refine rS ?_
  refine AWP.ret ?_
  subst hR
  exact es
 ·replace hR := cf hR
  refine rS ?_
  refine AWP.cond rfl (fun hb => ?_) (fun hb => ?_)
  ·replace hR := ct hR
   refine rS ?_
   refine AWP.ret ?_
   subst hR
   exact es
  ·replace hR := cf hR
   iterate 2 refine rS ?_
   refine AWP.cond rfl (fun hb => ?_) (fun hb => ?_)
   ·replace hR := ct hR
    iterate 2 refine rS ?_
    refine AWP.ret ?_
    subst hR
    exact es
   ·replace hR := cf hR
    refine rS ?_
    refine AWP.ret ?_
    subst hR
    exact es
end N238
def D_zgg : DF
 | [x0] => some (.int .i64 (zgg (rdG dCharacter x0)), false, [wG eCharacter dCharacter x0, bdCharacter (rdG dCharacter x0), (rdG dCharacter x0).Group.length ≤ 4, ∀ v ∈ (rdG dCharacter x0).Group, v ≤ 9])
 | _ => none
theorem D_zgg_ok : OkD Tryz.prog 238 D_zgg := by unfold D_zgg; exact dk N238.den
end Go.Ab

namespace Go.Ab
open Go Go.Proofs
def zvg (a0 : Int) : Bool :=
 (zd a0 0 359)
namespace N262
theorem DD : DOk Tryz.prog (Go.Ab.DD [(139, dP D_zd)]) := DD_cons D_zd_ok.e <| DD_nil _
theorem dn : type_of% (@D_zd.eq_1) := by and_intros <;> intros <;> rfl
theorem ol : type_of% (@zd.eq_1) := @zd.eq_1
theorem den (a0 : Int)  : Den Tryz.prog 262 [.int .i64 a0] (.bool (zvg a0)) := by
 generalize hR : zvg a0 = r
 unfold zvg at hR
 refine di Tryz.func262 Tryz.ntmps262 Tryz.results262 ?_
 intro c hL hc hk
 clear hL
 simp only [pars, Nat.zero_add]
 iterate 2 refine rS ?_
 refine AWP.ret ?_
 subst hR
 exact es
end N262
def D_zvg : DF
 | [x0] => some (.bool (zvg (rdI x0)), false, [wI .i64 x0])
 | _ => none
theorem D_zvg_ok : OkD Tryz.prog 262 D_zvg := by unfold D_zvg; exact dk N262.den
end Go.Ab

namespace Go.Ab
open Go Go.Proofs
def zhg (a0 : (List UInt8)) : Bool :=
 (((a0.length : Int) == 1) && (zmb [87, 82, 71, 89] a0))
namespace N263
theorem DD : DOk Tryz.prog (Go.Ab.DD [(242, dP D_zmb)]) := DD_cons D_zmb_ok.e <| DD_nil _
theorem dn : type_of% (@D_zmb.eq_1) := by and_intros <;> intros <;> rfl
theorem den (a0 : (List UInt8))  : Den Tryz.prog 263 [.str a0] (.bool (zhg a0)) := by
 generalize hR : zhg a0 = r
 unfold zhg at hR
 refine di Tryz.func263 Tryz.ntmps263 Tryz.results263 ?_
 intro c hL hc hk
 obtain ⟨hL0, _⟩ := hL
 have hw0 : a0.length < 9223372036854775808 := Nat.lt_succ_of_le hL0
 clear hL0
 simp only [pars, Nat.zero_add]
 iterate 2 refine rS ?_
 refine AWP.ret ?_
 subst hR
 exact es
end N263
def D_zhg : DF
 | [x0] => some (.bool (zhg (rdS x0)), false, [wS x0])
 | _ => none
theorem D_zhg_ok : OkD Tryz.prog 263 D_zhg := by unfold D_zhg; exact dk N263.den
end Go.Ab

namespace Go.Ab
open Go Go.Proofs
def zig (a0 : Sector) : Bool :=
 (((zvg a0.From) && (zvg a0.To)) && (zhg a0.Color))
namespace N239
theorem DD : DOk Tryz.prog (Go.Ab.DD [(262, dP D_zvg), (263, dP D_zhg)]) := DD_cons D_zvg_ok.e <| DD_cons D_zhg_ok.e <| DD_nil _
theorem dn : type_of% (And.intro @D_zvg.eq_1 <| @D_zhg.eq_1) := by and_intros <;> intros <;> rfl
theorem den (a0 : Sector)  : Den Tryz.prog 239 [.agg (eSector a0)] (.bool (zig a0)) := by
 generalize hR : zig a0 = r
 unfold zig at hR
 refine di Tryz.func239 Tryz.ntmps239 Tryz.results239 ?_
 intro c hL hc hk
 obtain ⟨hL0, _⟩ := hL
 have hw0 : bwSector a0 := Sector_lens a0 hL0
 clear hL0
 simp only [pars, Nat.zero_add]
 iterate 2 refine rS ?_
 refine AWP.ret ?_
 subst hR
 exact es
end N239
def D_zig : DF
 | [x0] => some (.bool (zig (rdG dSector x0)), false, [wG eSector dSector x0])
 | _ => none
theorem D_zig_ok : OkD Tryz.prog 239 D_zig := by unfold D_zig; exact dk N239.den
end Go.Ab

namespace Go.Ab
open Go Go.Proofs
def zpe (a0 : Int) (a1 : Int) : Int :=
 (IntKind.wrap .i64 ((a0.tmod a1) + a1)).tmod a1
namespace N264
theorem DD : DOk Tryz.prog (Go.Ab.DD []) := DD_nil _
theorem den (a0 : Int) (a1 : Int) (hp0 : 0 < a1) : Den Tryz.prog 264 [.int .i64 a0, .int .i64 a1] (.int .i64 (zpe a0 a1)) := by
 generalize hR : zpe a0 a1 = r
 unfold zpe at hR
 refine di Tryz.func264 Tryz.ntmps264 Tryz.results264 ?_
 intro c hL hc hk
 clear hL
 simp only [pars, Nat.zero_add]
 iterate 2 refine rS ?_
 refine AWP.ret ?_
 subst hR
 exact es
end N264
def D_zpe : DF
 | [x0, x1] => some (.int .i64 (zpe (rdI x0) (rdI x1)), false, [wI .i64 x0, wI .i64 x1, 0 < (rdI x1)])
 | _ => none
theorem D_zpe_ok : OkD Tryz.prog 264 D_zpe := by unfold D_zpe; exact dk N264.den
end Go.Ab

namespace Go.Ab
open Go Go.Proofs
def zod (a0 : Sector) : Int :=
 IntKind.wrap .i64 ((zpe (IntKind.wrap .i64 ((IntKind.wrap .i64 (a0.To - a0.From)) - 1)) 360) + 1)
namespace N241
theorem DD : DOk Tryz.prog (Go.Ab.DD [(264, dP D_zpe)]) := DD_cons D_zpe_ok.e <| DD_nil _
theorem dn : type_of% (@D_zpe.eq_1) := by and_intros <;> intros <;> rfl
theorem den (a0 : Sector)  : Den Tryz.prog 241 [.agg (eSector a0)] (.int .i64 (zod a0)) := by
 generalize hR : zod a0 = r
 unfold zod at hR
 refine di Tryz.func241 Tryz.ntmps241 Tryz.results241 ?_
 intro c hL hc hk
 obtain ⟨hL0, _⟩ := hL
 have hw0 : bwSector a0 := Sector_lens a0 hL0
 clear hL0
 simp only [pars, Nat.zero_add]
 iterate 2 refine rS ?_
 refine AWP.ret ?_
 subst hR
 exact es
end N241
def D_zod : DF
 | [x0] => some (.int .i64 (zod (rdG dSector x0)), false, [wG eSector dSector x0])
 | _ => none
theorem D_zod_ok : OkD Tryz.prog 241 D_zod := by unfold D_zod; exact dk N241.den
end Go.Ab

namespace Go.Ab
open Go Go.Proofs
def zkf (a0 : Sector) (a1 : Int) : Bool :=
 decide ((zpe (IntKind.wrap .i64 (a1 - a0.From)) 360) < (zod a0))
namespace N240
theorem DD : DOk Tryz.prog (Go.Ab.DD [(241, dP D_zod), (264, dP D_zpe)]) := DD_cons D_zod_ok.e <| DD_cons D_zpe_ok.e <| DD_nil _
theorem dn : type_of% (And.intro @D_zod.eq_1 <| @D_zpe.eq_1) := by and_intros <;> intros <;> rfl
theorem den (a0 : Sector) (a1 : Int)  : Den Tryz.prog 240 [.agg (eSector a0), .int .i64 a1] (.bool (zkf a0 a1)) := by
 generalize hR : zkf a0 a1 = r
 unfold zkf at hR
 refine di Tryz.func240 Tryz.ntmps240 Tryz.results240 ?_
 intro c hL hc hk
 obtain ⟨hL0, hL1, _⟩ := hL
 have hw0 : bwSector a0 := Sector_lens a0 hL0
 clear hL0 hL1
 simp only [pars, Nat.zero_add]
 refine rS ?_
 refine rD 6 ?_
 refine AWP.ret ?_
 subst hR
 exact es
end N240
def D_zkf : DF
 | [x0, x1] => some (.bool (zkf (rdG dSector x0) (rdI x1)), false, [wG eSector dSector x0, wI .i64 x1])
 | _ => none
theorem D_zkf_ok : OkD Tryz.prog 240 D_zkf := by unfold D_zkf; exact dk N240.den
end Go.Ab

namespace Go.Ab
open Go Go.Proofs
def zjc_b2 (a0 : (List Sector)) (i1 : Nat) (s1 : Int) (i2 : Nat) (s2 : Unit) : Except (Bool) (Unit) :=
 (bif (((i2 : Int) != (i1 : Int)) && (zkf (a0.getD i1 default) ((a0.getD i2 default).From))) then .error false else .ok ())
def zjc_b1 (a0 : (List Sector)) (i1 : Nat) (s1 : Int) : Except (Bool) (Int) :=
 (bif ((!(zig (a0.getD i1 default))) || (decide (0 < (i1 : Int)) && decide (((a0.getD i1 default).From) ≤ ((a0.getD ((IntKind.wrap .i64 ((i1 : Int) - 1)).toNat) default).From)))) then .error false else (match loopR (zjc_b2 a0 i1 s1) (a0.length - 0) 0 () with | .error e => .error e | .ok s2 => .ok (IntKind.wrap .i64 (s1 + (zod (a0.getD i1 default))))))
def zjc (a0 : (List Sector)) : Bool :=
 (match loopR (zjc_b1 a0) (a0.length - 0) 0 0 with | .error e => e | .ok s1 => ((zkb (a0.length : Int) 12) && decide (s1 ≤ 360)))
namespace N203
theorem DD : DOk Tryz.prog (Go.Ab.DD [(112, dP D_zkb), (239, dP D_zig), (240, dP D_zkf), (241, dP D_zod)]) := DD_cons D_zkb_ok.e <| DD_cons D_zig_ok.e <| DD_cons D_zkf_ok.e <| DD_cons D_zod_ok.e <| DD_nil _
theorem dn : type_of% (And.intro @D_zkb.eq_1 <| And.intro @D_zig.eq_1 <| And.intro @D_zkf.eq_1 <| @D_zod.eq_1) := by and_intros <;> intros <;> rfl
theorem den (a0 : (List Sector))  : Den Tryz.prog 203 [encL 3 eSector a0] (.bool (zjc a0)) := by
 generalize hR : zjc a0 = r
 unfold zjc at hR
 refine di Tryz.func203 Tryz.ntmps203 Tryz.results203 ?_
 intro c hL hc hk
 obtain ⟨hL0, _⟩ := hL
 have hw0 : a0.length < 9223372036854775808 := Nat.lt_succ_of_le (lens_encL hL0).1
 have hw1 : ∀ v ∈ a0, bwSector v := fun v hv => Sector_lens v ((lens_encL hL0).2 v hv)
 clear hL0
 simp only [pars, Nat.zero_add]
 iterate 3 refine rS ?_
 refine AWP.block ?_
 generalize hz1 : loopR (zjc_b1 a0) (a0.length - 0) 0 0 = z1 at hR
 refine AWP.range (zjc_b1 a0) (fun i1 s1 => ⟨[(0, encL 3 eSector a0), (3, .int .i64 s1), (8, encL 3 eSector a0), (9, .int .i64 (a0.length : Int)), (10, .int .i64 (i1 : Int))], []⟩) (fun i1 s1 => True) (a0.length) 0 0 [] hz1 ot wt sm ?_
 clear hz1
 intro i1 s1 hi1 hW1 hz1
 refine rS ?_
 refine AWP.seq ?_
 refine AWP.cond rfl (fun hb => ?_) (fun hb => ?_)
 ·have hlt1 : i1 < a0.length := ot
  rw [loopR_lt hlt1] at hz1; simp only [zjc_b1] at hz1
  refine rS ?_
  refine rD 18 ?_
  refine AWP.cond rfl (fun hb => ?_) (fun hb => ?_)
  ·simp only [hb, cond_true] at hz1
   refine rS ?_
   refine AWP.ret ?_
   subst hz1
   dsimp only at hR
   subst hR
   exact es
  ·simp only [hb, cond_false] at hz1
   refine rS ?_
   refine AWP.block ?_
   generalize hz2 : loopR (zjc_b2 a0 i1 s1) (a0.length - 0) 0 () = z2 at hz1
   refine AWP.range (zjc_b2 a0 i1 s1) (fun i2 s2 => ⟨[(0, encL 3 eSector a0), (3, .int .i64 s1), (4, .int .i64 (i1 : Int)), (5, .ptr 0 0), (8, encL 3 eSector a0), (9, .int .i64 (a0.length : Int)), (10, .int .i64 (i1 : Int)), (33, encL 3 eSector a0), (34, .int .i64 (a0.length : Int)), (35, .int .i64 (i2 : Int))], [.box [.int .i64 ((a0.getD i1 default).From), .int .i64 ((a0.getD i1 default).To), .str ((a0.getD i1 default).Color)]]⟩) (fun i2 s2 => True) (a0.length) 0 () [0] hz2 ot wt sm ?_
   clear hz2
   intro i2 s2 hi2 hW2 hz2
   refine rS ?_
   refine AWP.seq ?_
   refine AWP.cond rfl (fun hb => ?_) (fun hb => ?_)
   ·have hlt2 : i2 < a0.length := ot
    rw [loopR_lt hlt2] at hz2; simp only [zjc_b2] at hz2
    iterate 2 refine rS ?_
    refine AWP.cond rfl (fun hb => ?_) (fun hb => ?_)
    ·simp only [hb, cond_true] at hz2
     refine rS ?_
     refine AWP.ret ?_
     subst hz2
     dsimp only at hz1
     subst hz1
     dsimp only at hR
     subst hR
     exact es
    ·simp only [hb, cond_false] at hz2
     refine rS ?_
     exact ⟨_, [0], hlt2, wt, hz2, sm⟩
   ·obtain rfl : i2 = a0.length := ot
    rw [loopR_ge (Nat.le_refl _)] at hz2; subst hz2; dsimp only at hz1
    refine AWP.exit ?_; refine exitTo_here ?_
    iterate 2 refine rS ?_
    exact ⟨_, [], hlt1, wt, hz1, sm⟩
 ·obtain rfl : i1 = a0.length := ot
  rw [loopR_ge (Nat.le_refl _)] at hz1; subst hz1; dsimp only at hR
  refine AWP.exit ?_; refine exitTo_here ?_
  refine rS ?_
  refine AWP.ret ?_
  subst hR
  exact es
end N203
def D_zjc : DF
 | [x0] => some (.bool (zjc (rdL dSector x0)), false, [wL 3 eSector dSector x0])
 | _ => none
theorem D_zjc_ok : OkD Tryz.prog 203 D_zjc := by unfold D_zjc; exact dk N203.den
end Go.Ab

namespace Go.Ab
open Go Go.Proofs
def zkc_b2 (a0 : (List Sector)) (i1 : Nat) (s1 : List UInt8) (i2 : Nat) (s2 : List UInt8) : Except ((List UInt8)) (List UInt8) :=
 (bif ((((a0.getD i2 default).Color) == (([87, 82, 71, 89].take ((IntKind.wrap .i64 ((i1 : Int) + 1)).toNat)).drop i1)) && (!(zmb s2 (([87, 82, 71, 89].take ((IntKind.wrap .i64 ((i1 : Int) + 1)).toNat)).drop i1)))) then .ok (s2 ++ (([87, 82, 71, 89].take ((IntKind.wrap .i64 ((i1 : Int) + 1)).toNat)).drop i1)) else .ok s2)
def zkc_b1 (a0 : (List Sector)) (i1 : Nat) (s1 : List UInt8) : Except ((List UInt8)) (List UInt8) :=
 (match loopR (zkc_b2 a0 i1 s1) (a0.length - 0) 0 s1 with | .error e => .error e | .ok s2 => .ok s2)
def zkc (a0 : (List Sector)) : (List UInt8) :=
 (match loopR (zkc_b1 a0) ([87, 82, 71, 89].length - 0) 0 [] with | .error e => e | .ok s1 => s1)
namespace N204
theorem DD : DOk Tryz.prog (Go.Ab.DD [(242, dP D_zmb)]) := DD_cons D_zmb_ok.e <| DD_nil _
theorem dn : type_of% (@D_zmb.eq_1) := by and_intros <;> intros <;> rfl
theorem o0 {p : Prop} (h : p := by (first | (have h4 := hq4 i1; have h1 := hW1; have h2 := hW2; and_intros <;> first | omega | exact wrgy_one (by omega))); first | done | fail) : p := h
theorem den (a0 : (List Sector)) (hb0 : a0.length < 1099511627776) (hb1 : ∀ v ∈ a0, bdSector v) : Den Tryz.prog 204 [encL 3 eSector a0] (.str (zkc a0)) := by
 generalize hR : zkc a0 = r
 unfold zkc at hR
 refine di Tryz.func204 Tryz.ntmps204 Tryz.results204 ?_
 intro c hL hc hk
 obtain ⟨hL0, _⟩ := hL
 have hw0 : a0.length < 9223372036854775808 := Nat.lt_succ_of_le (lens_encL hL0).1
 have hw1 : ∀ v ∈ a0, bwSector v := fun v hv => Sector_lens v ((lens_encL hL0).2 v hv)
 clear hL0
 simp only [pars, Nat.zero_add]
 have hq4 := wrgy_len
 iterate 3 refine rS ?_
 refine AWP.block ?_
 generalize hz1 : loopR (zkc_b1 a0) ([87, 82, 71, 89].length - 0) 0 [] = z1 at hR
 refine AWP.range (zkc_b1 a0) (fun i1 s1 => ⟨[(0, encL 3 eSector a0), (3, .str s1), (8, .ptr 0 0)], [.it [87, 82, 71, 89] i1 (decide (i1 < [87, 82, 71, 89].length))]⟩) (fun i1 s1 => s1.length ≤ 1099511627776 * i1) ([87, 82, 71, 89].length) 0 [] [0] hz1 ot (by (simp)) sm ?_
 clear hz1
 intro i1 s1 hi1 hW1 hz1
 refine AWP.seq ?_
 by_cases hlt1 : i1 < [87, 82, 71, 89].length
 ·rw [loopR_lt hlt1] at hz1; simp only [zkc_b1] at hz1
  rw [decide_eq_true hlt1]
  refine rS ?_
  refine AWP.seq ?_
  refine AWP.cond rfl (fun hb => ?_) (fun hb => nomatch hb)
  iterate 2 refine rS ?_
  refine AWP.block ?_
  generalize hz2 : loopR (zkc_b2 a0 i1 s1) (a0.length - 0) 0 s1 = z2 at hz1
  refine AWP.range (zkc_b2 a0 i1 s1) (fun i2 s2 => ⟨[(0, encL 3 eSector a0), (3, .str s2), (4, .int .i64 (i1 : Int)), (8, .ptr 0 0), (12, encL 3 eSector a0), (13, .int .i64 (a0.length : Int)), (14, .int .i64 (i2 : Int))], [.it [87, 82, 71, 89] (i1 + 1) (decide (i1 + 1 < [87, 82, 71, 89].length))]⟩) (fun i2 s2 => s2.length ≤ 1099511627776 * i1 + i2) (a0.length) 0 s1 [0] hz2 ot (by (exact hW1)) sm ?_
  clear hz2
  intro i2 s2 hi2 hW2 hz2
  refine rS ?_
  refine AWP.seq ?_
  refine AWP.cond rfl (fun hb => ?_) (fun hb => ?_)
  ·have hlt2 : i2 < a0.length := ot
   rw [loopR_lt hlt2] at hz2; simp only [zkc_b2] at hz2
   iterate 3 refine rS ?_
   refine AWP.cond rfl (fun hb => ?_) (fun hb => ?_)
   ·simp only [hb, cond_true] at hz2
    iterate 2 refine rS ?_
    exact ⟨_, [0], hlt2, by (have h4 := hq4 i1; have h2 := hW2; simp only [ln] at *; omega), hz2, sm⟩
   ·simp only [hb, cond_false] at hz2
    refine rS ?_
    exact ⟨_, [0], hlt2, by (have h4 := hq4 i1; have h2 := hW2; simp only [ln] at *; omega), hz2, sm⟩
  ·obtain rfl : i2 = a0.length := ot
   rw [loopR_ge (Nat.le_refl _)] at hz2; subst hz2; dsimp only at hz1
   refine AWP.exit ?_; refine exitTo_here ?_
   exact ⟨_, [0], hlt1, by (have h1 := hW1; omega), hz1, sm⟩
 ·obtain rfl : i1 = [87, 82, 71, 89].length := by omega
  rw [loopR_ge (Nat.le_refl _)] at hz1; subst hz1; dsimp only at hR
  simp only [Nat.lt_irrefl, decide_false]
  refine rS ?_
  refine AWP.seq ?_
  refine AWP.cond rfl (fun hb => nomatch hb) (fun hb => ?_)
  refine AWP.exit ?_; refine exitTo_here ?_
  refine rS ?_
  refine AWP.ret ?_
  subst hR
  exact es
end N204
def D_zkc : DF
 | [x0] => some (.str (zkc (rdL dSector x0)), false, [wL 3 eSector dSector x0, (rdL dSector x0).length < 1099511627776, ∀ v ∈ (rdL dSector x0), bdSector v])
 | _ => none
theorem D_zkc_ok : OkD Tryz.prog 204 D_zkc := by unfold D_zkc; exact dk N204.den
end Go.Ab

namespace Go.Ab
open Go Go.Proofs
def zwf (a0 : Int) : Bool :=
 (zd a0 1 9)
namespace N196
theorem DD : DOk Tryz.prog (Go.Ab.DD [(139, dP D_zd)]) := DD_cons D_zd_ok.e <| DD_nil _
theorem dn : type_of% (@D_zd.eq_1) := by and_intros <;> intros <;> rfl
theorem ol : type_of% (@zd.eq_1) := @zd.eq_1
theorem den (a0 : Int)  : Den Tryz.prog 196 [.int .i64 a0] (.bool (zwf a0)) := by
 generalize hR : zwf a0 = r
 unfold zwf at hR
 refine di Tryz.func196 Tryz.ntmps196 Tryz.results196 ?_
 intro c hL hc hk
 clear hL
 simp only [pars, Nat.zero_add]
 iterate 2 refine rS ?_
 refine AWP.ret ?_
 subst hR
 exact es
end N196
def D_zwf : DF
 | [x0] => some (.bool (zwf (rdI x0)), false, [wI .i64 x0])
 | _ => none
theorem D_zwf_ok : OkD Tryz.prog 196 D_zwf := by unfold D_zwf; exact dk N196.den
end Go.Ab

namespace Go.Ab
open Go Go.Proofs
def zxf (a0 : Int) (a1 : Int) : Bool :=
 (decide (0 ≤ a0) && decide (a0 < a1))
namespace N251
theorem DD : DOk Tryz.prog (Go.Ab.DD []) := DD_nil _
theorem den (a0 : Int) (a1 : Int)  : Den Tryz.prog 251 [.int .i64 a0, .int .i64 a1] (.bool (zxf a0 a1)) := by
 generalize hR : zxf a0 a1 = r
 unfold zxf at hR
 refine di Tryz.func251 Tryz.ntmps251 Tryz.results251 ?_
 intro c hL hc hk
 clear hL
 simp only [pars, Nat.zero_add]
 iterate 2 refine rS ?_
 refine AWP.ret ?_
 subst hR
 exact es
end N251
def D_zxf : DF
 | [x0, x1] => some (.bool (zxf (rdI x0) (rdI x1)), false, [wI .i64 x0, wI .i64 x1])
 | _ => none
theorem D_zxf_ok : OkD Tryz.prog 251 D_zxf := by unfold D_zxf; exact dk N251.den
end Go.Ab

namespace Go.Ab
open Go Go.Proofs
def zpd (a0 : Int) (a1 : (List (List UInt8))) : (List UInt8) :=
 (bif (!(zxf a0 (a1.length : Int))) then [] else (a1.getD ((a0).toNat) default))
namespace N232
theorem DD : DOk Tryz.prog (Go.Ab.DD [(251, dP D_zxf)]) := DD_cons D_zxf_ok.e <| DD_nil _
theorem dn : type_of% (@D_zxf.eq_1) := by and_intros <;> intros <;> rfl
theorem ol : type_of% (@zxf.eq_1) := @zxf.eq_1
theorem den (a0 : Int) (a1 : (List (List UInt8)))  : Den Tryz.prog 232 [.int .i64 a0, encL 1 eS a1] (.str (zpd a0 a1)) := by
 generalize hR : zpd a0 a1 = r
 unfold zpd at hR
 refine di Tryz.func232 Tryz.ntmps232 Tryz.results232 ?_
 intro c hL hc hk
 obtain ⟨hL0, hL1, _⟩ := hL
 have hw0 : a1.length < 9223372036854775808 := Nat.lt_succ_of_le (lens_encL hL1).1
 have hw1 : ∀ v ∈ a1, bwS v := fun v hv => S_lens v ((lens_encL hL1).2 v hv)
 clear hL0 hL1
 simp only [pars, Nat.zero_add]
 iterate 2 refine rS ?_
 refine AWP.cond rfl (fun hb => ?_) (fun hb => ?_)
 ·replace hR := ct hR
  refine rS ?_
  refine AWP.ret ?_
  subst hR
  exact es
 ·replace hR := cf hR
  refine rS ?_
  refine AWP.ret ?_
  subst hR
  exact es
end N232
def D_zpd : DF
 | [x0, x1] => some (.str (zpd (rdI x0) (rdL dS x1)), false, [wI .i64 x0, wL 1 eS dS x1])
 | _ => none
theorem D_zpd_ok : OkD Tryz.prog 232 D_zpd := by unfold D_zpd; exact dk N232.den
end Go.Ab

namespace Go.Ab
open Go Go.Proofs
def zyf (a0 : Int) : (List UInt8) :=
 (zpd a0 ([[], [82], [71], [66, 89], [66, 89, 66], [89, 66], [89, 66, 89], [66, 82, 66], [82, 87], [89]] : List (List UInt8)))
namespace N197
theorem DD : DOk Tryz.prog (Go.Ab.DD [(232, dP D_zpd)]) := DD_cons D_zpd_ok.e <| DD_nil _
theorem dn : type_of% (@D_zpd.eq_1) := by and_intros <;> intros <;> rfl
theorem lx {p : Prop} (h : p := by (exact lxx); first | done | fail) : p := h
theorem den (a0 : Int)  : Den Tryz.prog 197 [.int .i64 a0] (.str (zyf a0)) := by
 generalize hR : zyf a0 = r
 unfold zyf at hR
 refine di Tryz.func197 Tryz.ntmps197 Tryz.results197 ?_
 intro c hL hc hk
 clear hL
 simp only [pars, Nat.zero_add]
 iterate 2 refine rS ?_
 refine AWP.ret ?_
 subst hR
 exact es
end N197
def D_zyf : DF
 | [x0] => some (.str (zyf (rdI x0)), false, [wI .i64 x0])
 | _ => none
theorem D_zyf_ok : OkD Tryz.prog 197 D_zyf := by unfold D_zyf; exact dk N197.den
end Go.Ab

namespace Go.Ab
open Go Go.Proofs
theorem pick_all {P : List UInt8 → Prop} (n : Int) (l : List (List UInt8)) (h0 : P []) (h : ∀ y ∈ l, P y) : P (zpd n l) := by
 unfold zpd
 cases hb : zxf n (l.length : Int) with
 | false => exact h0
 | true =>
  simp only [Bool.not_true, cond_false]
  rw [List.getD_eq_getElem?_getD]
  by_cases hi : n.toNat < l.length
  ·rw [List.getElem?_eq_getElem hi]; exact h _ (List.getElem_mem hi)
  ·rw [List.getElem?_eq_none (by omega)]; exact h0
end Go.Ab
