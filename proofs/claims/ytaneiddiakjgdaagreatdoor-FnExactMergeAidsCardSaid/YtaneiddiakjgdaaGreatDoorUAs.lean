/- A part of a proof: walks of functions and lemmas of our own. No conditions. -/
import Derived.Test.YtaneiddiakjgdaaGreatDoorUAl
import Derived.Test.YtaneiddiakjgdaaGreatDoorUAp
set_option linter.unusedSectionVars false
set_option linter.unusedVariables false
set_option linter.unusedSimpArgs false
set_option maxHeartbeats 1000000
namespace Go.Ab
open Go Go.Proofs
def zt (a0 : Int) (a1 : Int) : Bool :=
 decide (a0 ≤ a1)
namespace N112
theorem DD : DOk Tryz.prog (Go.Ab.DD []) := DD_nil _
theorem den (a0 : Int) (a1 : Int)  : Den Tryz.prog 112 [.int .i64 a0, .int .i64 a1] (.bool (zt a0 a1)) := by
 generalize hR : zt a0 a1 = r
 unfold zt at hR
 refine di Tryz.func112 Tryz.ntmps112 Tryz.results112 ?_
 intro c hL hc hk
 clear hL
 simp only [pars, Nat.zero_add]
 iterate 2 refine rS ?_
 refine AWP.ret ?_
 subst hR
 exact es
end N112
def D_zt : DF
 | [x0, x1] => some (.bool (zt (rdI x0) (rdI x1)), false, [wI .i64 x0, wI .i64 x1])
 | _ => none
theorem D_zt_ok : OkD Tryz.prog 112 D_zt := by unfold D_zt; exact dk N112.den
end Go.Ab

namespace Go.Ab
open Go Go.Proofs
def zaf (a0 : Int) : Bool :=
 (decide (48 ≤ a0) && decide (a0 ≤ 57))
namespace N195
theorem DD : DOk Tryz.prog (Go.Ab.DD []) := DD_nil _
theorem den (a0 : Int)  : Den Tryz.prog 195 [.int .u8 a0] (.bool (zaf a0)) := by
 generalize hR : zaf a0 = r
 unfold zaf at hR
 refine di Tryz.func195 Tryz.ntmps195 Tryz.results195 ?_
 intro c hL hc hk
 clear hL
 simp only [pars, Nat.zero_add]
 iterate 2 refine rS ?_
 refine AWP.ret ?_
 subst hR
 exact es
end N195
def D_zaf : DF
 | [x0] => some (.bool (zaf (rdI x0)), false, [wI .u8 x0])
 | _ => none
theorem D_zaf_ok : OkD Tryz.prog 195 D_zaf := by unfold D_zaf; exact dk N195.den
end Go.Ab

namespace Go.Ab
open Go Go.Proofs
def zzc_b1 (a0 : (List UInt8)) (i1 : Nat) (s1 : Unit) : Except (Bool) (Unit) :=
 (bif ((!(decide (97 ≤ ((a0.getD i1 0).toNat : Int)) && decide (((a0.getD i1 0).toNat : Int) ≤ 122))) && (((i1 : Int) == 0) || (!(zaf ((a0.getD i1 0).toNat : Int))))) then .error false else .ok ())
def zzc (a0 : (List UInt8)) : Bool :=
 (match loopR (zzc_b1 a0) (a0.length - 0) 0 () with | .error e => e | .ok s1 => ((a0 != []) && (zt (a0.length : Int) 10)))
namespace N159
theorem DD : DOk Tryz.prog (Go.Ab.DD [(112, dP D_zt), (195, dP D_zaf)]) := DD_cons D_zt_ok.e <| DD_cons D_zaf_ok.e <| DD_nil _
theorem dn : type_of% (And.intro @D_zt.eq_1 <| @D_zaf.eq_1) := by and_intros <;> intros <;> rfl
theorem den (a0 : (List UInt8))  : Den Tryz.prog 159 [.str a0] (.bool (zzc a0)) := by
 generalize hR : zzc a0 = r
 unfold zzc at hR
 refine di Tryz.func159 Tryz.ntmps159 Tryz.results159 ?_
 intro c hL hc hk
 obtain ⟨hL0, _⟩ := hL
 have hw0 : a0.length < 9223372036854775808 := Nat.lt_succ_of_le hL0
 clear hL0
 simp only [pars, Nat.zero_add]
 iterate 2 refine rS ?_
 refine AWP.block ?_
 generalize hz1 : loopR (zzc_b1 a0) (a0.length - 0) 0 () = z1 at hR
 refine AWP.range (zzc_b1 a0) (fun i1 s1 => ⟨[(0, .str a0), (3, .int .i64 (i1 : Int))], []⟩) (fun i1 s1 => True) (a0.length) 0 () [] hz1 ot wt sm ?_
 clear hz1
 intro i1 s1 hi1 hW1 hz1
 refine rS ?_
 refine AWP.cond rfl (fun hb => ?_) (fun hb => ?_)
 ·have hlt1 : i1 < a0.length := ot
  rw [loopR_lt hlt1] at hz1; simp only [zzc_b1] at hz1
  iterate 2 refine rS ?_
  refine AWP.cond rfl (fun hb => ?_) (fun hb => ?_)
  ·simp only [hb, cond_true] at hz1
   refine rS ?_
   refine AWP.ret ?_
   subst hz1
   dsimp only at hR
   subst hR
   exact es
  ·simp only [hb, cond_false] at hz1
   refine rS ?_
   exact ⟨_, [], hlt1, wt, hz1, sm⟩
 ·obtain rfl : i1 = a0.length := ot
  rw [loopR_ge (Nat.le_refl _)] at hz1; subst hz1; dsimp only at hR
  refine AWP.exit ?_; refine exitTo_here ?_
  refine rS ?_
  refine AWP.ret ?_
  subst hR
  exact es
end N159
def D_zzc : DF
 | [x0] => some (.bool (zzc (rdS x0)), false, [wS x0])
 | _ => none
theorem D_zzc_ok : OkD Tryz.prog 159 D_zzc := by unfold D_zzc; exact dk N159.den
end Go.Ab

namespace Go.Ab
open Go Go.Proofs
def zb (a0 : Int) (a1 : Int) (a2 : Int) : Bool :=
 (decide (a1 ≤ a0) && decide (a0 ≤ a2))
namespace N139
theorem DD : DOk Tryz.prog (Go.Ab.DD []) := DD_nil _
theorem den (a0 : Int) (a1 : Int) (a2 : Int)  : Den Tryz.prog 139 [.int .i64 a0, .int .i64 a1, .int .i64 a2] (.bool (zb a0 a1 a2)) := by
 generalize hR : zb a0 a1 a2 = r
 unfold zb at hR
 refine di Tryz.func139 Tryz.ntmps139 Tryz.results139 ?_
 intro c hL hc hk
 clear hL
 simp only [pars, Nat.zero_add]
 iterate 2 refine rS ?_
 refine AWP.ret ?_
 subst hR
 exact es
end N139
def D_zb : DF
 | [x0, x1, x2] => some (.bool (zb (rdI x0) (rdI x1) (rdI x2)), false, [wI .i64 x0, wI .i64 x1, wI .i64 x2])
 | _ => none
theorem D_zb_ok : OkD Tryz.prog 139 D_zb := by unfold D_zb; exact dk N139.den
end Go.Ab

namespace Go.Ab
open Go Go.Proofs
def zdc_b1 (a0 : (List Int)) (i1 : Nat) (s1 : Int) : Except (Bool) (Int) :=
 (bif (!(zb (a0.getD i1 default) 1 9)) then .error false else .ok (IntKind.wrap .i64 (s1 + (a0.getD i1 default))))
def zdc (a0 : (List Int)) : Bool :=
 (match loopR (zdc_b1 a0) (a0.length - 0) 0 0 with | .error e => e | .ok s1 => (((zt (a0.length : Int) 4) && decide (s1 ≤ 12)) && (!(zob a0 ([1] : List Int)))))
namespace N255
theorem DD : DOk Tryz.prog (Go.Ab.DD [(112, dP D_zt), (139, dP D_zb), (256, dP D_zob)]) := DD_cons D_zt_ok.e <| DD_cons D_zb_ok.e <| DD_cons D_zob_ok.e <| DD_nil _
theorem dn : type_of% (And.intro @D_zt.eq_1 <| And.intro @D_zb.eq_1 <| @D_zob.eq_1) := by and_intros <;> intros <;> rfl
theorem ol : type_of% (@zb.eq_1) := @zb.eq_1
theorem den (a0 : (List Int))  : Den Tryz.prog 255 [encL 1 eIi64 a0] (.bool (zdc a0)) := by
 generalize hR : zdc a0 = r
 unfold zdc at hR
 refine di Tryz.func255 Tryz.ntmps255 Tryz.results255 ?_
 intro c hL hc hk
 obtain ⟨hL0, _⟩ := hL
 have hw0 : a0.length < 9223372036854775808 := Nat.lt_succ_of_le (lens_encL hL0).1
 clear hL0
 simp only [pars, Nat.zero_add]
 iterate 3 refine rS ?_
 refine AWP.block ?_
 generalize hz1 : loopR (zdc_b1 a0) (a0.length - 0) 0 0 = z1 at hR
 refine AWP.range (zdc_b1 a0) (fun i1 s1 => ⟨[(0, encL 1 eIi64 a0), (3, .int .i64 s1), (6, encL 1 eIi64 a0), (7, .int .i64 (a0.length : Int)), (8, .int .i64 (i1 : Int))], []⟩) (fun i1 s1 => True) (a0.length) 0 0 [] hz1 ot wt sm ?_
 clear hz1
 intro i1 s1 hi1 hW1 hz1
 refine rS ?_
 refine AWP.seq ?_
 refine AWP.cond rfl (fun hb => ?_) (fun hb => ?_)
 ·have hlt1 : i1 < a0.length := ot
  rw [loopR_lt hlt1] at hz1; simp only [zdc_b1] at hz1
  iterate 2 refine rS ?_
  refine AWP.cond rfl (fun hb => ?_) (fun hb => ?_)
  ·simp only [hb, cond_true] at hz1
   refine rS ?_
   refine AWP.ret ?_
   subst hz1
   dsimp only at hR
   subst hR
   exact es
  ·simp only [hb, cond_false] at hz1
   iterate 2 refine rS ?_
   exact ⟨_, [], hlt1, wt, hz1, sm⟩
 ·obtain rfl : i1 = a0.length := ot
  rw [loopR_ge (Nat.le_refl _)] at hz1; subst hz1; dsimp only at hR
  refine AWP.exit ?_; refine exitTo_here ?_
  refine rS ?_
  refine AWP.ret ?_
  subst hR
  exact es
end N255
def D_zdc : DF
 | [x0] => some (.bool (zdc (rdL dIi64 x0)), false, [wL 1 eIi64 dIi64 x0])
 | _ => none
theorem D_zdc_ok : OkD Tryz.prog 255 D_zdc := by unfold D_zdc; exact dk N255.den
end Go.Ab

namespace Go.Ab
open Go Go.Proofs
def zxb_b1 (a0 : (List UInt8)) (i1 : Nat) (s1 : Int) : Except (Bool) (Int) :=
 (bif decide ((zid [87, 82, 71, 89] ((a0.getD i1 0).toNat : Int)) ≤ s1) then .error false else .ok (zid [87, 82, 71, 89] ((a0.getD i1 0).toNat : Int)))
def zxb (a0 : (List UInt8)) : Bool :=
 (match loopR (zxb_b1 a0) (a0.length - 0) 0 (-1) with | .error e => e | .ok s1 => (zb (a0.length : Int) 1 3))
namespace N235
theorem DD : DOk Tryz.prog (Go.Ab.DD [(139, dP D_zb), (254, dP D_zid)]) := DD_cons D_zb_ok.e <| DD_cons D_zid_ok.e <| DD_nil _
theorem dn : type_of% (And.intro @D_zb.eq_1 <| @D_zid.eq_1) := by and_intros <;> intros <;> rfl
theorem ol : type_of% (@zb.eq_1) := @zb.eq_1
theorem den (a0 : (List UInt8))  : Den Tryz.prog 235 [.str a0] (.bool (zxb a0)) := by
 generalize hR : zxb a0 = r
 unfold zxb at hR
 refine di Tryz.func235 Tryz.ntmps235 Tryz.results235 ?_
 intro c hL hc hk
 obtain ⟨hL0, _⟩ := hL
 have hw0 : a0.length < 9223372036854775808 := Nat.lt_succ_of_le hL0
 clear hL0
 simp only [pars, Nat.zero_add]
 iterate 3 refine rS ?_
 refine AWP.block ?_
 generalize hz1 : loopR (zxb_b1 a0) (a0.length - 0) 0 (-1) = z1 at hR
 refine AWP.range (zxb_b1 a0) (fun i1 s1 => ⟨[(0, .str a0), (3, .int .i64 s1), (4, .int .i64 (i1 : Int))], []⟩) (fun i1 s1 => True) (a0.length) 0 (-1) [] hz1 ot wt sm ?_
 clear hz1
 intro i1 s1 hi1 hW1 hz1
 refine rS ?_
 refine AWP.cond rfl (fun hb => ?_) (fun hb => ?_)
 ·have hlt1 : i1 < a0.length := ot
  rw [loopR_lt hlt1] at hz1; simp only [zxb_b1] at hz1
  iterate 2 refine rS ?_
  refine AWP.cond rfl (fun hb => ?_) (fun hb => ?_)
  ·simp only [hb, cond_true] at hz1
   refine rS ?_
   refine AWP.ret ?_
   subst hz1
   dsimp only at hR
   subst hR
   exact es
  ·simp only [hb, cond_false] at hz1
   iterate 2 refine rS ?_
   exact ⟨_, [], hlt1, wt, hz1, sm⟩
 ·obtain rfl : i1 = a0.length := ot
  rw [loopR_ge (Nat.le_refl _)] at hz1; subst hz1; dsimp only at hR
  refine AWP.exit ?_; refine exitTo_here ?_
  refine rS ?_
  refine AWP.ret ?_
  subst hR
  exact es
end N235
def D_zxb : DF
 | [x0] => some (.bool (zxb (rdS x0)), false, [wS x0])
 | _ => none
theorem D_zxb_ok : OkD Tryz.prog 235 D_zxb := by unfold D_zxb; exact dk N235.den
end Go.Ab

namespace Go.Ab
open Go Go.Proofs
def zdb (a0 : (List UInt8)) : (List UInt8) :=
 (bif ((((a0.length : Int) != 1) || Op.bytesLess a0 [65]) || !(Op.bytesLess a0 [90] || a0 == [90])) then [] else ([[46, 45], [45, 46, 46, 46], [45, 46, 45, 46], [45, 46, 46], [46], [46, 46, 45, 46], [45, 45, 46], [46, 46, 46, 46], [46, 46], [46, 45, 45, 45], [45, 46, 45], [46, 45, 46, 46], [45, 45], [45, 46], [45, 45, 45], [46, 45, 45, 46], [45, 45, 46, 45], [46, 45, 46], [46, 46, 46], [45], [46, 46, 45], [46, 46, 46, 45], [46, 45, 45], [45, 46, 46, 45], [45, 46, 45, 45], [45, 45, 46, 46]] : List (List UInt8)).getD ((IntKind.wrap .u8 (((a0.getD 0 0).toNat : Int) - 65)).toNat) [])
namespace N257
theorem DD : DOk Tryz.prog (Go.Ab.DD []) := DD_nil _
theorem o0 {p : Prop} (h : p := by (first | (simp only [Bool.or_eq_false_iff, Bool.not_eq_false', Bool.or_eq_true, bne_eq_false_iff_eq] at hb; have h9 := signs_ix a0 hb; have h8 := hb.1.1; and_intros <;> omega)); first | done | fail) : p := h
theorem den (a0 : (List UInt8))  : Den Tryz.prog 257 [.str a0] (.str (zdb a0)) := by
 generalize hR : zdb a0 = r
 unfold zdb at hR
 refine di Tryz.func257 Tryz.ntmps257 Tryz.results257 ?_
 intro c hL hc hk
 obtain ⟨hL0, _⟩ := hL
 have hw0 : a0.length < 9223372036854775808 := Nat.lt_succ_of_le hL0
 clear hL0
 simp only [pars, Nat.zero_add]
 iterate 2 refine rS ?_
 refine AWP.cond rfl (fun hb => ?_) (fun hb => ?_)
 ·replace hR := ct hR
  refine rS ?_
  refine AWP.ret ?_
  subst hR
  exact es
 ·replace hR := cf hR
  refine rS ?_
  refine AWP.ret ?_
  subst hR
  exact es
end N257
def D_zdb : DF
 | [x0] => some (.str (zdb (rdS x0)), false, [wS x0])
 | _ => none
theorem D_zdb_ok : OkD Tryz.prog 257 D_zdb := by unfold D_zdb; exact dk N257.den
end Go.Ab

namespace Go.Ab
open Go Go.Proofs
def zvb (a0 : Character) : Bool :=
 (bif (a0.Kind == 1) then (((a0.Group.length : Int) == 0) && (a0.Letter == [])) else (bif (a0.Kind == 3) then (((a0.Group.length : Int) == 0) && (a0.Letter == [])) else (bif (a0.Kind == 2) then ((a0.Letter == []) && (zdc a0.Group)) else (bif (a0.Kind == 4) then ((a0.Letter == []) && (zdc a0.Group)) else (bif (a0.Kind == 5) then ((a0.Letter == []) && (zdc a0.Group)) else (bif (a0.Kind == 6) then (bif (a0.Letter == []) then (((a0.Group.length : Int) == 0) || (((a0.Group.length : Int) == 1) && (zb (a0.Group.getD 0 default) 2 9))) else ((a0.Letter == [76]) && (zob a0.Group ([6] : List Int)))) else (bif (a0.Kind == 7) then (bif (a0.Letter == []) then (((a0.Group.length : Int) == 0) || (((a0.Group.length : Int) == 1) && (zb (a0.Group.getD 0 default) 2 9))) else ((a0.Letter == [76]) && (zob a0.Group ([6] : List Int)))) else (bif (a0.Kind == 8) then (((zdb a0.Letter) != []) && ((a0.Group.length : Int) == 0)) else false))))))))
namespace N236
theorem DD : DOk Tryz.prog (Go.Ab.DD [(139, dP D_zb), (255, dP D_zdc), (256, dP D_zob), (257, dP D_zdb)]) := DD_cons D_zb_ok.e <| DD_cons D_zdc_ok.e <| DD_cons D_zob_ok.e <| DD_cons D_zdb_ok.e <| DD_nil _
theorem dn : type_of% (And.intro @D_zb.eq_1 <| And.intro @D_zdc.eq_1 <| And.intro @D_zob.eq_1 <| @D_zdb.eq_1) := by and_intros <;> intros <;> rfl
theorem ol : type_of% (@zb.eq_1) := @zb.eq_1
theorem den (a0 : Character)  : Den Tryz.prog 236 [.agg (eCharacter a0)] (.bool (zvb a0)) := by
 generalize hR : zvb a0 = r
 unfold zvb at hR
 refine di Tryz.func236 Tryz.ntmps236 Tryz.results236 ?_
 intro c hL hc hk
 obtain ⟨hL0, _⟩ := hL
 have hw0 : bwCharacter a0 := Character_lens a0 hL0
 clear hL0
 simp only [pars, Nat.zero_add]
 iterate 3 refine rS ?_
 refine AWP.cond rfl (fun hb => ?_) (fun hb => ?_)
 ·replace hR := ct hR
  refine AWP.skip ?_
  refine AWP.cond rfl (fun hb => ?_) (fun hb => ?_)
  ·refine rS ?_
   refine AWP.ret ?_
   subst hR
   exact es
  ·exfalso; simp_all
 ·replace hR := cf hR
  refine rS ?_
  refine AWP.cond rfl (fun hb => ?_) (fun hb => ?_)
  ·replace hR := ct hR
   refine rS ?_
   refine AWP.ret ?_
   subst hR
   exact es
  ·replace hR := cf hR
   refine rS ?_
   refine AWP.cond rfl (fun hb => ?_) (fun hb => ?_)
   ·replace hR := ct hR
    refine AWP.skip ?_
    refine AWP.cond rfl (fun hb => ?_) (fun hb => ?_)
    ·refine rS ?_
     refine AWP.ret ?_
     subst hR
     exact es
    ·exfalso; simp_all
   ·replace hR := cf hR
    refine rS ?_
    refine AWP.cond rfl (fun hb => ?_) (fun hb => ?_)
    ·replace hR := ct hR
     refine AWP.skip ?_
     refine AWP.cond rfl (fun hb => ?_) (fun hb => ?_)
     ·refine rS ?_
      refine AWP.ret ?_
      subst hR
      exact es
     ·exfalso; simp_all
    ·replace hR := cf hR
     refine rS ?_
     refine AWP.cond rfl (fun hb => ?_) (fun hb => ?_)
     ·replace hR := ct hR
      refine rS ?_
      refine AWP.ret ?_
      subst hR
      exact es
     ·replace hR := cf hR
      refine rS ?_
      refine AWP.cond rfl (fun hb => ?_) (fun hb => ?_)
      ·replace hR := ct hR
       refine AWP.skip ?_
       refine AWP.cond rfl (fun hb => ?_) (fun hb => ?_)
       ·refine rS ?_
        refine AWP.cond rfl (fun hb => ?_) (fun hb => ?_)
        ·replace hR := ct hR
         refine rS ?_
         refine AWP.ret ?_
         subst hR
         exact es
        ·replace hR := cf hR
         refine rS ?_
         refine AWP.ret ?_
         subst hR
         exact es
       ·exfalso; simp_all
      ·replace hR := cf hR
       refine rS ?_
       refine AWP.cond rfl (fun hb => ?_) (fun hb => ?_)
       ·replace hR := ct hR
        refine rS ?_
        refine AWP.cond rfl (fun hb => ?_) (fun hb => ?_)
        ·replace hR := ct hR
         refine rS ?_
         refine AWP.ret ?_
         subst hR
         exact es
        ·replace hR := cf hR
         refine rS ?_
         refine AWP.ret ?_
         subst hR
         exact es
       ·replace hR := cf hR
        refine rS ?_
        refine AWP.cond rfl (fun hb => ?_) (fun hb => ?_)
        ·replace hR := ct hR
         refine rS ?_
         refine AWP.ret ?_
         subst hR
         exact es
        ·replace hR := cf hR
         refine rS ?_
         refine AWP.ret ?_
         subst hR
         exact es
end N236
def D_zvb : DF
 | [x0] => some (.bool (zvb (rdG dCharacter x0)), false, [wG eCharacter dCharacter x0])
 | _ => none
theorem D_zvb_ok : OkD Tryz.prog 236 D_zvb := by unfold D_zvb; exact dk N236.den
end Go.Ab

namespace Go.Ab
open Go Go.Proofs
theorem signs_eq (a : List UInt8) : zdb a = if a.length = 1 ∧ 65 ≤ (a.getD 0 0).toNat ∧ (a.getD 0 0).toNat ≤ 90 then codesL.getD ((a.getD 0 0).toNat - 65) [] else [] := by
 unfold zdb
 by_cases h1 : a.length = 1
 ·have c1 : ((a.length : Int) != 1) = false := by rw [h1]; rfl
  rw [c1, less_sing a 65 h1, less_sing a 90 h1, eq_sing a 90 h1]
  have e1 : (65 : UInt8).toNat = 65 := rfl
  have e2 : (90 : UInt8).toNat = 90 := rfl
  rw [e1, e2]
  by_cases h2 : 65 ≤ (a.getD 0 0).toNat ∧ (a.getD 0 0).toNat ≤ 90
  ·rw [if_pos ⟨h1, h2⟩, decide_eq_false (by omega)]
   have c2 : (decide ((a.getD 0 0).toNat < 90) || decide ((a.getD 0 0).toNat = 90)) = true := by
    rw [Bool.or_eq_true, decide_eq_true_eq, decide_eq_true_eq]; omega
   rw [c2]
   simp only [Bool.or_self, Bool.not_true, cond_false]
   rw [u8_wrap _ (by omega) (by omega), show ((((a.getD 0 0).toNat : Int) - 65).toNat) = (a.getD 0 0).toNat - 65 by omega]
   rfl
  ·rw [if_neg (fun h => h2 h.2)]
   by_cases h3 : (a.getD 0 0).toNat < 65
   ·rw [decide_eq_true h3]; rfl
   ·have c2 : (decide ((a.getD 0 0).toNat < 90) || decide ((a.getD 0 0).toNat = 90)) = false := by
     rw [decide_eq_false (by omega), decide_eq_false (by omega)]; rfl
    rw [c2, decide_eq_false h3]; rfl
 ·have c1 : ((a.length : Int) != 1) = true := by rw [bne_iff_ne]; omega
  rw [c1, if_neg (fun h => h1 h.1)]
  rfl
theorem signs_len (a : List UInt8) : (zdb a).length ≤ 4 := by
 rw [signs_eq]
 split
 ·exact codeL_len _
 ·simp
theorem signs_ascii (a : List UInt8) : ∀ x ∈ zdb a, x.toNat < 128 := by
 intro x hx
 rw [signs_eq] at hx
 split at hx
 ·rw [List.getD_eq_getElem?_getD] at hx
  cases h : codesL[(a.getD 0 0).toNat - 65]? with
  | none => rw [h] at hx; simp at hx
  | some y =>
   rw [h] at hx
   rcases (codes_all y (List.mem_of_getElem? h)).2.2 x hx with e | e <;> subst e <;> decide
 ·simp at hx
end Go.Ab

namespace Go.Ab
open Go Go.Proofs
def zpf (a0 : Int) : Bool :=
 ((a0 == 6) || (a0 == 7))
namespace N258
theorem DD : DOk Tryz.prog (Go.Ab.DD []) := DD_nil _
theorem den (a0 : Int)  : Den Tryz.prog 258 [.int .i64 a0] (.bool (zpf a0)) := by
 generalize hR : zpf a0 = r
 unfold zpf at hR
 refine di Tryz.func258 Tryz.ntmps258 Tryz.results258 ?_
 intro c hL hc hk
 clear hL
 simp only [pars, Nat.zero_add]
 iterate 2 refine rS ?_
 refine AWP.ret ?_
 subst hR
 exact es
end N258
def D_zpf : DF
 | [x0] => some (.bool (zpf (rdI x0)), false, [wI .i64 x0])
 | _ => none
theorem D_zpf_ok : OkD Tryz.prog 258 D_zpf := by unfold D_zpf; exact dk N258.den
end Go.Ab

namespace Go.Ab
open Go Go.Proofs
def zad (a0 : Character) : Bool :=
 ((a0.Kind == 1) || ((zpf a0.Kind) && ((a0.Group.length : Int) == 0)))
namespace N237
theorem DD : DOk Tryz.prog (Go.Ab.DD [(258, dP D_zpf)]) := DD_cons D_zpf_ok.e <| DD_nil _
theorem dn : type_of% (@D_zpf.eq_1) := by and_intros <;> intros <;> rfl
theorem den (a0 : Character)  : Den Tryz.prog 237 [.agg (eCharacter a0)] (.bool (zad a0)) := by
 generalize hR : zad a0 = r
 unfold zad at hR
 refine di Tryz.func237 Tryz.ntmps237 Tryz.results237 ?_
 intro c hL hc hk
 obtain ⟨hL0, _⟩ := hL
 have hw0 : bwCharacter a0 := Character_lens a0 hL0
 clear hL0
 simp only [pars, Nat.zero_add]
 iterate 2 refine rS ?_
 refine AWP.ret ?_
 subst hR
 exact es
end N237
def D_zad : DF
 | [x0] => some (.bool (zad (rdG dCharacter x0)), false, [wG eCharacter dCharacter x0])
 | _ => none
theorem D_zad_ok : OkD Tryz.prog 237 D_zad := by unfold D_zad; exact dk N237.den
end Go.Ab

namespace Go.Ab
open Go Go.Proofs
def zk (a0 : Int) : (Int × Int × Int) :=
 (bif (a0 == 2) then (10, 10, 15) else (bif (a0 == 4) then (5, 15, 20) else (bif (a0 == 5) then (20, 20, 25) else (bif (a0 == 6) then (5, 5, 20) else (bif (a0 == 7) then (2, 3, 10) else (bif (a0 == 8) then (5, 5, 30) else (0, 0, 0)))))))
namespace N259
theorem DD : DOk Tryz.prog (Go.Ab.DD []) := DD_nil _
theorem den (a0 : Int)  : Den Tryz.prog 259 [.int .i64 a0] (.tup [.int .i64 ((zk a0).1), .int .i64 ((zk a0).2.1), .int .i64 ((zk a0).2.2)]) := by
 generalize hR : zk a0 = r
 unfold zk at hR
 refine di Tryz.func259 Tryz.ntmps259 Tryz.results259 ?_
 intro c hL hc hk
 clear hL
 simp only [pars, Nat.zero_add]
 iterate 3 refine rS ?_
 refine AWP.cond rfl (fun hb => ?_) (fun hb => ?_)
 ·replace hR := ct hR
  refine rS ?_
  refine AWP.ret ?_
  subst hR
  exact es
 ·replace hR := cf hR
  refine rS ?_
  refine AWP.cond rfl (fun hb => ?_) (fun hb => ?_)
  ·replace hR := ct hR
   refine rS ?_
   refine AWP.ret ?_
   subst hR
   exact es
  ·replace hR := cf hR
   refine rS ?_
   refine AWP.cond rfl (fun hb => ?_) (fun hb => ?_)
   ·replace hR := ct hR
    refine rS ?_
    refine AWP.ret ?_
    subst hR
    exact es
   ·replace hR := cf hR
    refine rS ?_
    refine AWP.cond rfl (fun hb => ?_) (fun hb => ?_)
    ·replace hR := ct hR
     refine rS ?_
     refine AWP.ret ?_
     subst hR
     exact es
    ·replace hR := cf hR
     refine rS ?_
     refine AWP.cond rfl (fun hb => ?_) (fun hb => ?_)
     ·replace hR := ct hR
      refine rS ?_
      refine AWP.ret ?_
      subst hR
      exact es
     ·replace hR := cf hR
      refine rS ?_
      refine AWP.cond rfl (fun hb => ?_) (fun hb => ?_)
      ·replace hR := ct hR
       refine rS ?_
       refine AWP.ret ?_
       subst hR
       exact es
      ·replace hR := cf hR
       refine rS ?_
       refine AWP.ret ?_
       subst hR
       exact es
end N259
def D_zk : DF
 | [x0] => some (.tup [.int .i64 ((zk (rdI x0)).1), .int .i64 ((zk (rdI x0)).2.1), .int .i64 ((zk (rdI x0)).2.2)], false, [wI .i64 x0])
 | _ => none
theorem D_zk_ok : OkD Tryz.prog 259 D_zk := by unfold D_zk; exact dk N259.den
end Go.Ab

namespace Go.Ab
open Go Go.Proofs
def zfd_b1 (a0 : (List Int)) (i1 : Nat) (s1 : Int) : Except (Int) (Int) :=
 .ok (IntKind.wrap .i64 (s1 + (a0.getD i1 default)))
def zfd (a0 : (List Int)) : Int :=
 (match loopR (zfd_b1 a0) (a0.length - 0) 0 0 with | .error e => e | .ok s1 => s1)
namespace N260
theorem DD : DOk Tryz.prog (Go.Ab.DD []) := DD_nil _
theorem den (a0 : (List Int))  : Den Tryz.prog 260 [encL 1 eIi64 a0] (.int .i64 (zfd a0)) := by
 generalize hR : zfd a0 = r
 unfold zfd at hR
 refine di Tryz.func260 Tryz.ntmps260 Tryz.results260 ?_
 intro c hL hc hk
 obtain ⟨hL0, _⟩ := hL
 have hw0 : a0.length < 9223372036854775808 := Nat.lt_succ_of_le (lens_encL hL0).1
 clear hL0
 simp only [pars, Nat.zero_add]
 iterate 3 refine rS ?_
 refine AWP.block ?_
 generalize hz1 : loopR (zfd_b1 a0) (a0.length - 0) 0 0 = z1 at hR
 refine AWP.range (zfd_b1 a0) (fun i1 s1 => ⟨[(3, .int .i64 s1), (6, encL 1 eIi64 a0), (7, .int .i64 (a0.length : Int)), (8, .int .i64 (i1 : Int))], []⟩) (fun i1 s1 => True) (a0.length) 0 0 [] hz1 ot wt sm ?_
 clear hz1
 intro i1 s1 hi1 hW1 hz1
 refine rS ?_
 refine AWP.seq ?_
 refine AWP.cond rfl (fun hb => ?_) (fun hb => ?_)
 ·have hlt1 : i1 < a0.length := ot
  rw [loopR_lt hlt1] at hz1; simp only [zfd_b1] at hz1
  iterate 3 refine rS ?_
  exact ⟨_, [], hlt1, wt, hz1, sm⟩
 ·obtain rfl : i1 = a0.length := ot
  rw [loopR_ge (Nat.le_refl _)] at hz1; subst hz1; dsimp only at hR
  refine AWP.exit ?_; refine exitTo_here ?_
  refine rS ?_
  refine AWP.ret ?_
  subst hR
  exact es
end N260
def D_zfd : DF
 | [x0] => some (.int .i64 (zfd (rdL dIi64 x0)), false, [wL 1 eIi64 dIi64 x0])
 | _ => none
theorem D_zfd_ok : OkD Tryz.prog 260 D_zfd := by unfold D_zfd; exact dk N260.den
end Go.Ab

namespace Go.Ab
open Go Go.Proofs
def zi_b1 (a0 : Character) (i1 : Nat) (s1 : List Int) : Except ((List Int)) (List Int) :=
 (bif decide (0 < (i1 : Int)) then (bif ((((zdb a0.Letter).getD i1 0).toNat : Int) == 45) then .ok ((s1 ++ ([(zk a0.Kind).2.1] : List Int)) ++ ([IntKind.wrap .i64 (3 * ((zk a0.Kind).1))] : List Int)) else .ok ((s1 ++ ([(zk a0.Kind).2.1] : List Int)) ++ ([(zk a0.Kind).1] : List Int))) else (bif ((((zdb a0.Letter).getD i1 0).toNat : Int) == 45) then .ok (s1 ++ ([IntKind.wrap .i64 (3 * ((zk a0.Kind).1))] : List Int)) else .ok (s1 ++ ([(zk a0.Kind).1] : List Int))))
def zi_b3 (a0 : Character) (i2 : Nat) (s2 : List Int) (i3 : Nat) (s3 : List Int) : Except ((List Int)) (List Int) :=
 (bif decide (0 < (i3 : Int)) then .ok ((s3 ++ ([(zk a0.Kind).2.1] : List Int)) ++ ([(zk a0.Kind).1] : List Int)) else (bif decide (0 < (i2 : Int)) then .ok ((s3 ++ ([IntKind.wrap .i64 (((zk a0.Kind).2.1) + 20)] : List Int)) ++ ([(zk a0.Kind).1] : List Int)) else .ok (s3 ++ ([(zk a0.Kind).1] : List Int))))
def zi_b2 (a0 : Character) (i2 : Nat) (s2 : List Int) : Except ((List Int)) (List Int) :=
 (match loopR (zi_b3 a0 i2 s2) (((([1] : List Int).getD i2 default)).toNat - 0) 0 s2 with | .error e => .error e | .ok s3 => .ok s3)
def zi_b5 (a0 : Character) (i4 : Nat) (s4 : List Int) (i5 : Nat) (s5 : List Int) : Except ((List Int)) (List Int) :=
 (bif decide (0 < (i5 : Int)) then .ok ((s5 ++ ([(zk a0.Kind).2.1] : List Int)) ++ ([(zk a0.Kind).1] : List Int)) else (bif decide (0 < (i4 : Int)) then .ok ((s5 ++ ([IntKind.wrap .i64 (((zk a0.Kind).2.1) + 20)] : List Int)) ++ ([(zk a0.Kind).1] : List Int)) else .ok (s5 ++ ([(zk a0.Kind).1] : List Int))))
def zi_b4 (a0 : Character) (i4 : Nat) (s4 : List Int) : Except ((List Int)) (List Int) :=
 (match loopR (zi_b5 a0 i4 s4) (((a0.Group.getD i4 default)).toNat - 0) 0 s4 with | .error e => .error e | .ok s5 => .ok s5)
def zi (a0 : Character) : (List Int) :=
 (bif (a0.Kind == 8) then (match loopR (zi_b1 a0) ((zdb a0.Letter).length - 0) 0 ([] : List Int) with | .error e => e | .ok s1 => s1) else (bif ((a0.Group.length : Int) == 0) then (match loopR (zi_b2 a0) (1 - 0) 0 ([] : List Int) with | .error e => e | .ok s2 => (bif (a0.Letter != []) then s2 ++ ([(zk a0.Kind).2.1, 20] : List Int) else s2)) else (match loopR (zi_b4 a0) (a0.Group.length - 0) 0 ([] : List Int) with | .error e => e | .ok s4 => (bif (a0.Letter != []) then s4 ++ ([(zk a0.Kind).2.1, 20] : List Int) else s4))))
namespace N261
theorem DD : DOk Tryz.prog (Go.Ab.DD [(257, dP D_zdb), (259, dP D_zk)]) := DD_cons D_zdb_ok.e <| DD_cons D_zk_ok.e <| DD_nil _
theorem dn : type_of% (And.intro @D_zdb.eq_1 <| @D_zk.eq_1) := by and_intros <;> intros <;> rfl
theorem o2 {p : Prop} (h : p := by (first | (and_intros <;> first | decide | omega | (simp; (first | done | fail)) | (rw [IntKind.wrap_i64]; have := hg9 i4; omega) | (rw [IntKind.wrap_i64]; have := hg1 i2; omega) | (rw [IntKind.wrap_i64]; omega) | (intro i hi; exact app1_get _ _ i hi) | (intro i hi; exact app11_get _ _ _ i hi))); first | done | fail) : p := h
theorem o3 {p : Prop} (h : p := by (first | (refine ⟨⟨Nat.le_refl _, fun i hi => app2_pure _ _ _ i hi⟩, .inl fun i hi => by rw [app2_get _ _ _ i hi]; simp [NoBorL, NoBor], by simp, fun i hi => by rw [app2_get _ _ _ i hi]; exact simOL_refl _⟩)); first | done | fail) : p := h
theorem lx {p : Prop} (h : p := by (exact lxx); first | done | fail) : p := h
set_option maxHeartbeats 1000000 in
set_option maxRecDepth 20000 in
theorem den (a0 : Character) (hb0 : bdCharacter a0) (hp0 : a0.Group.length ≤ 4) (hp1 : ∀ v ∈ a0.Group, v ≤ 9) : Den Tryz.prog 261 [.agg (eCharacter a0)] (ownL 2 1 eIi64 (zi a0)) := by
 generalize hR : zi a0 = r
 unfold zi at hR
 refine di Tryz.func261 Tryz.ntmps261 Tryz.results261 ?_
 intro c hL hc hk
 obtain ⟨hL0, _⟩ := hL
 have hw0 : bwCharacter a0 := Character_lens a0 hL0
 clear hL0
 simp only [pars, Nat.zero_add]
 have hg9 : ∀ i : Nat, a0.Group.getD i default ≤ 9 := fun i => getD_le hp1 i
 have hs9 := signs_len a0.Letter
 have hs8 := signs_ascii a0.Letter
 have hg1 : ∀ i : Nat, ([1] : List Int).getD i default ≤ 9 := fun i => getD_le (by simp) i
 iterate 3 refine rS ?_
 refine AWP.cond rfl (fun hb => ?_) (fun hb => ?_)
 ·replace hR := ct hR
  iterate 2 refine rS ?_
  refine AWP.block ?_
  refine AWP.lensT 27 rfl (fun hLn1 => ?_)
  generalize hz1 : loopR (zi_b1 a0) ((zdb a0.Letter).length - 0) 0 ([] : List Int) = z1 at hR
  refine AWP.range (zi_b1 a0) (fun i1 s1 => ⟨[(3, .int .i64 ((zk a0.Kind).1)), (4, .int .i64 ((zk a0.Kind).2.1)), (6, .ref 0 1 0 s1.length), (28, .ptr 1 0)], [.arr 2 1 s1.length (fun j => eIi64 (s1.getD j default)), .it (zdb a0.Letter) i1 (decide (i1 < (zdb a0.Letter).length))]⟩) (fun i1 s1 => s1.length ≤ ([] : List Int).length + 2 * i1 ∧ s1.length ≤ 2 * i1) ((zdb a0.Letter).length) 0 ([] : List Int) [1, 2] hz1 ot wt sm ?_
  clear hz1
  intro i1 s1 hi1 hW1 hz1
  refine AWP.seq ?_
  by_cases hlt1 : i1 < (zdb a0.Letter).length
  ·rw [loopR_lt hlt1] at hz1; simp only [zi_b1] at hz1
   rw [decide_eq_true hlt1]
   refine rS ?_
   refine AWP.seq ?_
   refine AWP.cond rfl (fun hb => ?_) (fun hb => nomatch hb)
   iterate 2 refine rS ?_
   refine AWP.cond rfl (fun hb => ?_) (fun hb => ?_)
   ·simp only [hb, cond_true] at hz1
    iterate 2 refine rS ?_
    refine AWP.cond rfl (fun hb => ?_) (fun hb => ?_)
    ·simp only [hb, cond_true] at hz1
     refine rS ?_
     exact ⟨_, [5, 1], hlt1, wt, hz1, sm⟩
    ·simp only [hb, cond_false] at hz1
     refine rS ?_
     exact ⟨_, [5, 1], hlt1, wt, hz1, sm⟩
   ·simp only [hb, cond_false] at hz1
    refine rS ?_
    refine AWP.cond rfl (fun hb => ?_) (fun hb => ?_)
    ·simp only [hb, cond_true] at hz1
     refine rS ?_
     exact ⟨_, [3, 1], hlt1, wt, hz1, sm⟩
    ·simp only [hb, cond_false] at hz1
     refine rS ?_
     exact ⟨_, [3, 1], hlt1, wt, hz1, sm⟩
  ·obtain rfl : i1 = (zdb a0.Letter).length := by omega
   rw [loopR_ge (Nat.le_refl _)] at hz1; subst hz1; dsimp only at hR
   simp only [Nat.lt_irrefl, decide_false]
   refine rS ?_
   refine AWP.seq ?_
   refine AWP.cond rfl (fun hb => nomatch hb) (fun hb => ?_)
   refine AWP.exit ?_; refine exitTo_here ?_
   refine rS ?_
   refine AWP.ret ?_
   subst hR
   exact es
 ·replace hR := cf hR
  iterate 2 refine rS ?_
  refine AWP.cond rfl (fun hb => ?_) (fun hb => ?_)
  ·replace hR := ct hR
   iterate 3 refine rS ?_
   refine AWP.block ?_
   generalize hz2 : loopR (zi_b2 a0) (1 - 0) 0 ([] : List Int) = z2 at hR
   refine AWP.range (zi_b2 a0) (fun i2 s2 => ⟨[(1, .ptr 0 0), (3, .int .i64 ((zk a0.Kind).1)), (4, .int .i64 ((zk a0.Kind).2.1)), (10, .ref 1 1 0 s2.length), (58, .ref 2 1 0 1), (59, .int .i64 1), (60, .int .i64 (i2 : Int))], [.box [.int .i64 a0.Kind, encL 1 eIi64 a0.Group, .str a0.Letter, .str a0.Colors, .int .i64 a0.Period], .arr 2 1 s2.length (fun j => eIi64 (s2.getD j default)), .arr 2 1 ([1] : List Int).length (fun j => eIi64 (([1] : List Int).getD j default))]⟩) (fun i2 s2 => s2.length ≤ 18 * i2) (1) 0 ([] : List Int) [0, 2, 1] hz2 ot wt sm ?_
   clear hz2
   intro i2 s2 hi2 hW2 hz2
   refine rS ?_
   refine AWP.seq ?_
   refine AWP.cond rfl (fun hb => ?_) (fun hb => ?_)
   ·have hlt2 : i2 < 1 := ot
    rw [loopR_lt hlt2] at hz2; simp only [zi_b2] at hz2
    iterate 2 refine rS ?_
    refine AWP.block ?_
    generalize hz3 : loopR (zi_b3 a0 i2 s2) (((([1] : List Int).getD i2 default)).toNat - 0) 0 s2 = z3 at hz2
    refine AWP.range (zi_b3 a0 i2 s2) (fun i3 s3 => ⟨[(1, .ptr 0 0), (3, .int .i64 ((zk a0.Kind).1)), (4, .int .i64 ((zk a0.Kind).2.1)), (10, .ref 1 1 0 s3.length), (11, .int .i64 (i2 : Int)), (58, .ref 2 1 0 1), (59, .int .i64 1), (60, .int .i64 (i2 : Int)), (65, .int .i64 (([1] : List Int).getD i2 default)), (66, .int .i64 (i3 : Int))], [.box [.int .i64 a0.Kind, encL 1 eIi64 a0.Group, .str a0.Letter, .str a0.Colors, .int .i64 a0.Period], .arr 2 1 s3.length (fun j => eIi64 (s3.getD j default)), .arr 2 1 ([1] : List Int).length (fun j => eIi64 (([1] : List Int).getD j default))]⟩) (fun i3 s3 => s3.length ≤ s2.length + 2 * i3 ∧ s3.length ≤ 18 * i2 + 2 * i3) (((([1] : List Int).getD i2 default)).toNat) 0 s2 [0, 1, 2] hz3 ot wt sm ?_
    clear hz3
    intro i3 s3 hi3 hW3 hz3
    refine rS ?_
    refine AWP.seq ?_
    refine AWP.cond rfl (fun hb => ?_) (fun hb => ?_)
    ·have hlt3 : i3 < ((([1] : List Int).getD i2 default)).toNat := ot
     rw [loopR_lt hlt3] at hz3; simp only [zi_b3] at hz3
     iterate 2 refine rS ?_
     refine AWP.cond rfl (fun hb => ?_) (fun hb => ?_)
     ·simp only [hb, cond_true] at hz3
      iterate 3 refine rS ?_
      exact ⟨_, [0, 6, 2], hlt3, wt, hz3, sm⟩
     ·simp only [hb, cond_false] at hz3
      refine rS ?_
      refine AWP.cond rfl (fun hb => ?_) (fun hb => ?_)
      ·simp only [hb, cond_true] at hz3
       iterate 3 refine rS ?_
       exact ⟨_, [0, 6, 2], hlt3, wt, hz3, sm⟩
      ·simp only [hb, cond_false] at hz3
       iterate 2 refine rS ?_
       exact ⟨_, [0, 4, 2], hlt3, wt, hz3, sm⟩
    ·obtain rfl : i3 = ((([1] : List Int).getD i2 default)).toNat := ot
     rw [loopR_ge (Nat.le_refl _)] at hz3; subst hz3; dsimp only at hz2
     refine AWP.exit ?_; refine exitTo_here ?_
     refine rS ?_
     exact ⟨_, [0, 1, 2], hlt2, by (have h9 := hg1 i2; omega), hz2, sm⟩
   ·obtain rfl : i2 = 1 := ot
    rw [loopR_ge (Nat.le_refl _)] at hz2; subst hz2; dsimp only at hR
    refine AWP.exit ?_; refine exitTo_here ?_
    refine rS ?_
    refine AWP.cond rfl (fun hb => ?_) (fun hb => ?_)
    ·replace hR := ct hR
     iterate 2 refine rS ?_
     refine AWP.ret ?_
     subst hR
     exact es
    ·replace hR := cf hR
     refine rS ?_
     refine AWP.ret ?_
     subst hR
     exact es
  ·replace hR := cf hR
   iterate 2 refine rS ?_
   refine AWP.block ?_
   refine AWP.lensS 9 rfl (fun hLn4 => ?_)
   generalize hz4 : loopR (zi_b4 a0) (a0.Group.length - 0) 0 ([] : List Int) = z4 at hR
   refine AWP.range (zi_b4 a0) (fun i4 s4 => ⟨[(1, .ptr 0 0), (3, .int .i64 ((zk a0.Kind).1)), (4, .int .i64 ((zk a0.Kind).2.1)), (10, .ref 1 1 0 s4.length), (58, encL 1 eIi64 a0.Group), (59, .int .i64 (a0.Group.length : Int)), (60, .int .i64 (i4 : Int))], [.box [.int .i64 a0.Kind, encL 1 eIi64 a0.Group, .str a0.Letter, .str a0.Colors, .int .i64 a0.Period], .arr 2 1 s4.length (fun j => eIi64 (s4.getD j default))]⟩) (fun i4 s4 => s4.length ≤ 18 * i4) (a0.Group.length) 0 ([] : List Int) [0, 1] hz4 ot wt sm ?_
   clear hz4
   intro i4 s4 hi4 hW4 hz4
   refine rS ?_
   refine AWP.seq ?_
   refine AWP.cond rfl (fun hb => ?_) (fun hb => ?_)
   ·have hlt4 : i4 < a0.Group.length := ot
    rw [loopR_lt hlt4] at hz4; simp only [zi_b4] at hz4
    iterate 2 refine rS ?_
    refine AWP.block ?_
    generalize hz5 : loopR (zi_b5 a0 i4 s4) (((a0.Group.getD i4 default)).toNat - 0) 0 s4 = z5 at hz4
    refine AWP.range (zi_b5 a0 i4 s4) (fun i5 s5 => ⟨[(1, .ptr 0 0), (3, .int .i64 ((zk a0.Kind).1)), (4, .int .i64 ((zk a0.Kind).2.1)), (10, .ref 1 1 0 s5.length), (11, .int .i64 (i4 : Int)), (58, encL 1 eIi64 a0.Group), (59, .int .i64 (a0.Group.length : Int)), (60, .int .i64 (i4 : Int)), (65, .int .i64 (a0.Group.getD i4 default)), (66, .int .i64 (i5 : Int))], [.box [.int .i64 a0.Kind, encL 1 eIi64 a0.Group, .str a0.Letter, .str a0.Colors, .int .i64 a0.Period], .arr 2 1 s5.length (fun j => eIi64 (s5.getD j default))]⟩) (fun i5 s5 => s5.length ≤ s4.length + 2 * i5 ∧ s5.length ≤ 18 * i4 + 2 * i5) (((a0.Group.getD i4 default)).toNat) 0 s4 [0, 1] hz5 ot wt sm ?_
    clear hz5
    intro i5 s5 hi5 hW5 hz5
    refine rS ?_
    refine AWP.seq ?_
    refine AWP.cond rfl (fun hb => ?_) (fun hb => ?_)
    ·have hlt5 : i5 < ((a0.Group.getD i4 default)).toNat := ot
     rw [loopR_lt hlt5] at hz5; simp only [zi_b5] at hz5
     iterate 2 refine rS ?_
     refine AWP.cond rfl (fun hb => ?_) (fun hb => ?_)
     ·simp only [hb, cond_true] at hz5
      iterate 3 refine rS ?_
      exact ⟨_, [0, 5], hlt5, wt, hz5, sm⟩
     ·simp only [hb, cond_false] at hz5
      refine rS ?_
      refine AWP.cond rfl (fun hb => ?_) (fun hb => ?_)
      ·simp only [hb, cond_true] at hz5
       iterate 3 refine rS ?_
       exact ⟨_, [0, 5], hlt5, wt, hz5, sm⟩
      ·simp only [hb, cond_false] at hz5
       iterate 2 refine rS ?_
       exact ⟨_, [0, 3], hlt5, wt, hz5, sm⟩
    ·obtain rfl : i5 = ((a0.Group.getD i4 default)).toNat := ot
     rw [loopR_ge (Nat.le_refl _)] at hz5; subst hz5; dsimp only at hz4
     refine AWP.exit ?_; refine exitTo_here ?_
     refine rS ?_
     exact ⟨_, [0, 1], hlt4, by (have h9 := hg9 i4; omega), hz4, sm⟩
   ·obtain rfl : i4 = a0.Group.length := ot
    rw [loopR_ge (Nat.le_refl _)] at hz4; subst hz4; dsimp only at hR
    refine AWP.exit ?_; refine exitTo_here ?_
    refine rS ?_
    refine AWP.cond rfl (fun hb => ?_) (fun hb => ?_)
    ·replace hR := ct hR
     iterate 2 refine rS ?_
     refine AWP.ret ?_
     subst hR
     exact es
    ·replace hR := cf hR
     refine rS ?_
     refine AWP.ret ?_
     subst hR
     exact es
end N261
def D_zi : DF
 | [x0] => some (ownL 2 1 eIi64 (zi (rdG dCharacter x0)), false, [wG eCharacter dCharacter x0, bdCharacter (rdG dCharacter x0), (rdG dCharacter x0).Group.length ≤ 4, ∀ v ∈ (rdG dCharacter x0).Group, v ≤ 9])
 | _ => none
theorem D_zi_ok : OkD Tryz.prog 261 D_zi := by unfold D_zi; exact dk N261.den
end Go.Ab

namespace Go.Ab
open Go Go.Proofs
def zpe (a0 : Character) : Int :=
 (bif (zad a0) then 0 else (bif (a0.Kind == 3) then 20 else (bif decide (1 < (a0.Group.length : Int)) then IntKind.wrap .i64 ((zfd (zi a0)) + (IntKind.wrap .i64 (((zk a0.Kind).2.2) + 20))) else IntKind.wrap .i64 ((zfd (zi a0)) + ((zk a0.Kind).2.2)))))
namespace N238
theorem DD : DOk Tryz.prog (Go.Ab.DD [(237, dP D_zad), (259, dP D_zk), (260, dP D_zfd), (261, dP D_zi)]) := DD_cons D_zad_ok.e <| DD_cons D_zk_ok.e <| DD_cons D_zfd_ok.e <| DD_cons D_zi_ok.e <| DD_nil _
theorem dn : type_of% (And.intro @D_zad.eq_1 <| And.intro @D_zk.eq_1 <| And.intro @D_zfd.eq_1 <| @D_zi.eq_1) := by and_intros <;> intros <;> rfl
theorem den (a0 : Character) (hb0 : bdCharacter a0) (hp0 : a0.Group.length ≤ 4) (hp1 : ∀ v ∈ a0.Group, v ≤ 9) : Den Tryz.prog 238 [.agg (eCharacter a0)] (.int .i64 (zpe a0)) := by
 generalize hR : zpe a0 = r
 unfold zpe at hR
 refine di Tryz.func238 Tryz.ntmps238 Tryz.results238 ?_
 intro c hL hc hk
 obtain ⟨hL0, _⟩ := hL
 have hw0 : bwCharacter a0 := Character_lens a0 hL0
 clear hL0
 simp only [pars, Nat.zero_add]
 iterate 2 refine rS ?_
 refine AWP.cond rfl (fun hb => ?_) (fun hb => ?_)
 ·replace hR := ct hR
  refine rS ?_
  refine AWP.ret ?_
  subst hR
  exact es
 ·replace hR := cf hR
  refine rS ?_
  refine AWP.cond rfl (fun hb => ?_) (fun hb => ?_)
  ·replace hR := ct hR
   refine rS ?_
   refine AWP.ret ?_
   subst hR
   exact es
  ·replace hR := cf hR
   iterate 2 refine rS ?_
   refine AWP.cond rfl (fun hb => ?_) (fun hb => ?_)
   ·replace hR := ct hR
    iterate 2 refine rS ?_
    refine AWP.ret ?_
    subst hR
    exact es
   ·replace hR := cf hR
    refine rS ?_
    refine AWP.ret ?_
    subst hR
    exact es
end N238
def D_zpe : DF
 | [x0] => some (.int .i64 (zpe (rdG dCharacter x0)), false, [wG eCharacter dCharacter x0, bdCharacter (rdG dCharacter x0), (rdG dCharacter x0).Group.length ≤ 4, ∀ v ∈ (rdG dCharacter x0).Group, v ≤ 9])
 | _ => none
theorem D_zpe_ok : OkD Tryz.prog 238 D_zpe := by unfold D_zpe; exact dk N238.den
end Go.Ab

namespace Go.Ab
open Go Go.Proofs
def zbf (a0 : Int) : Bool :=
 (zb a0 0 359)
namespace N262
theorem DD : DOk Tryz.prog (Go.Ab.DD [(139, dP D_zb)]) := DD_cons D_zb_ok.e <| DD_nil _
theorem dn : type_of% (@D_zb.eq_1) := by and_intros <;> intros <;> rfl
theorem ol : type_of% (@zb.eq_1) := @zb.eq_1
theorem den (a0 : Int)  : Den Tryz.prog 262 [.int .i64 a0] (.bool (zbf a0)) := by
 generalize hR : zbf a0 = r
 unfold zbf at hR
 refine di Tryz.func262 Tryz.ntmps262 Tryz.results262 ?_
 intro c hL hc hk
 clear hL
 simp only [pars, Nat.zero_add]
 iterate 2 refine rS ?_
 refine AWP.ret ?_
 subst hR
 exact es
end N262
def D_zbf : DF
 | [x0] => some (.bool (zbf (rdI x0)), false, [wI .i64 x0])
 | _ => none
theorem D_zbf_ok : OkD Tryz.prog 262 D_zbf := by unfold D_zbf; exact dk N262.den
end Go.Ab

namespace Go.Ab
open Go Go.Proofs
def zqe (a0 : (List UInt8)) : Bool :=
 (((a0.length : Int) == 1) && (zx [87, 82, 71, 89] a0))
namespace N263
theorem DD : DOk Tryz.prog (Go.Ab.DD [(242, dP D_zx)]) := DD_cons D_zx_ok.e <| DD_nil _
theorem dn : type_of% (@D_zx.eq_1) := by and_intros <;> intros <;> rfl
theorem den (a0 : (List UInt8))  : Den Tryz.prog 263 [.str a0] (.bool (zqe a0)) := by
 generalize hR : zqe a0 = r
 unfold zqe at hR
 refine di Tryz.func263 Tryz.ntmps263 Tryz.results263 ?_
 intro c hL hc hk
 obtain ⟨hL0, _⟩ := hL
 have hw0 : a0.length < 9223372036854775808 := Nat.lt_succ_of_le hL0
 clear hL0
 simp only [pars, Nat.zero_add]
 iterate 2 refine rS ?_
 refine AWP.ret ?_
 subst hR
 exact es
end N263
def D_zqe : DF
 | [x0] => some (.bool (zqe (rdS x0)), false, [wS x0])
 | _ => none
theorem D_zqe_ok : OkD Tryz.prog 263 D_zqe := by unfold D_zqe; exact dk N263.den
end Go.Ab

namespace Go.Ab
open Go Go.Proofs
def zre (a0 : Sector) : Bool :=
 (((zbf a0.From) && (zbf a0.To)) && (zqe a0.Color))
namespace N239
theorem DD : DOk Tryz.prog (Go.Ab.DD [(262, dP D_zbf), (263, dP D_zqe)]) := DD_cons D_zbf_ok.e <| DD_cons D_zqe_ok.e <| DD_nil _
theorem dn : type_of% (And.intro @D_zbf.eq_1 <| @D_zqe.eq_1) := by and_intros <;> intros <;> rfl
theorem den (a0 : Sector)  : Den Tryz.prog 239 [.agg (eSector a0)] (.bool (zre a0)) := by
 generalize hR : zre a0 = r
 unfold zre at hR
 refine di Tryz.func239 Tryz.ntmps239 Tryz.results239 ?_
 intro c hL hc hk
 obtain ⟨hL0, _⟩ := hL
 have hw0 : bwSector a0 := Sector_lens a0 hL0
 clear hL0
 simp only [pars, Nat.zero_add]
 iterate 2 refine rS ?_
 refine AWP.ret ?_
 subst hR
 exact es
end N239
def D_zre : DF
 | [x0] => some (.bool (zre (rdG dSector x0)), false, [wG eSector dSector x0])
 | _ => none
theorem D_zre_ok : OkD Tryz.prog 239 D_zre := by unfold D_zre; exact dk N239.den
end Go.Ab

namespace Go.Ab
open Go Go.Proofs
def zjd (a0 : Int) (a1 : Int) : Int :=
 (IntKind.wrap .i64 ((a0.tmod a1) + a1)).tmod a1
namespace N264
theorem DD : DOk Tryz.prog (Go.Ab.DD []) := DD_nil _
theorem den (a0 : Int) (a1 : Int) (hp0 : 0 < a1) : Den Tryz.prog 264 [.int .i64 a0, .int .i64 a1] (.int .i64 (zjd a0 a1)) := by
 generalize hR : zjd a0 a1 = r
 unfold zjd at hR
 refine di Tryz.func264 Tryz.ntmps264 Tryz.results264 ?_
 intro c hL hc hk
 clear hL
 simp only [pars, Nat.zero_add]
 iterate 2 refine rS ?_
 refine AWP.ret ?_
 subst hR
 exact es
end N264
def D_zjd : DF
 | [x0, x1] => some (.int .i64 (zjd (rdI x0) (rdI x1)), false, [wI .i64 x0, wI .i64 x1, 0 < (rdI x1)])
 | _ => none
theorem D_zjd_ok : OkD Tryz.prog 264 D_zjd := by unfold D_zjd; exact dk N264.den
end Go.Ab

namespace Go.Ab
open Go Go.Proofs
def zlc (a0 : Sector) : Int :=
 IntKind.wrap .i64 ((zjd (IntKind.wrap .i64 ((IntKind.wrap .i64 (a0.To - a0.From)) - 1)) 360) + 1)
namespace N241
theorem DD : DOk Tryz.prog (Go.Ab.DD [(264, dP D_zjd)]) := DD_cons D_zjd_ok.e <| DD_nil _
theorem dn : type_of% (@D_zjd.eq_1) := by and_intros <;> intros <;> rfl
theorem den (a0 : Sector)  : Den Tryz.prog 241 [.agg (eSector a0)] (.int .i64 (zlc a0)) := by
 generalize hR : zlc a0 = r
 unfold zlc at hR
 refine di Tryz.func241 Tryz.ntmps241 Tryz.results241 ?_
 intro c hL hc hk
 obtain ⟨hL0, _⟩ := hL
 have hw0 : bwSector a0 := Sector_lens a0 hL0
 clear hL0
 simp only [pars, Nat.zero_add]
 iterate 2 refine rS ?_
 refine AWP.ret ?_
 subst hR
 exact es
end N241
def D_zlc : DF
 | [x0] => some (.int .i64 (zlc (rdG dSector x0)), false, [wG eSector dSector x0])
 | _ => none
theorem D_zlc_ok : OkD Tryz.prog 241 D_zlc := by unfold D_zlc; exact dk N241.den
end Go.Ab

namespace Go.Ab
open Go Go.Proofs
def zvd (a0 : Sector) (a1 : Int) : Bool :=
 decide ((zjd (IntKind.wrap .i64 (a1 - a0.From)) 360) < (zlc a0))
namespace N240
theorem DD : DOk Tryz.prog (Go.Ab.DD [(241, dP D_zlc), (264, dP D_zjd)]) := DD_cons D_zlc_ok.e <| DD_cons D_zjd_ok.e <| DD_nil _
theorem dn : type_of% (And.intro @D_zlc.eq_1 <| @D_zjd.eq_1) := by and_intros <;> intros <;> rfl
theorem den (a0 : Sector) (a1 : Int)  : Den Tryz.prog 240 [.agg (eSector a0), .int .i64 a1] (.bool (zvd a0 a1)) := by
 generalize hR : zvd a0 a1 = r
 unfold zvd at hR
 refine di Tryz.func240 Tryz.ntmps240 Tryz.results240 ?_
 intro c hL hc hk
 obtain ⟨hL0, hL1, _⟩ := hL
 have hw0 : bwSector a0 := Sector_lens a0 hL0
 clear hL0 hL1
 simp only [pars, Nat.zero_add]
 refine rS ?_
 refine rD 6 ?_
 refine AWP.ret ?_
 subst hR
 exact es
end N240
def D_zvd : DF
 | [x0, x1] => some (.bool (zvd (rdG dSector x0) (rdI x1)), false, [wG eSector dSector x0, wI .i64 x1])
 | _ => none
theorem D_zvd_ok : OkD Tryz.prog 240 D_zvd := by unfold D_zvd; exact dk N240.den
end Go.Ab

namespace Go.Ab
open Go Go.Proofs
def zpb_b2 (a0 : (List Sector)) (i1 : Nat) (s1 : Int) (i2 : Nat) (s2 : Unit) : Except (Bool) (Unit) :=
 (bif (((i2 : Int) != (i1 : Int)) && (zvd (a0.getD i1 default) ((a0.getD i2 default).From))) then .error false else .ok ())
def zpb_b1 (a0 : (List Sector)) (i1 : Nat) (s1 : Int) : Except (Bool) (Int) :=
 (bif ((!(zre (a0.getD i1 default))) || (decide (0 < (i1 : Int)) && decide (((a0.getD i1 default).From) ≤ ((a0.getD ((IntKind.wrap .i64 ((i1 : Int) - 1)).toNat) default).From)))) then .error false else (match loopR (zpb_b2 a0 i1 s1) (a0.length - 0) 0 () with | .error e => .error e | .ok s2 => .ok (IntKind.wrap .i64 (s1 + (zlc (a0.getD i1 default))))))
def zpb (a0 : (List Sector)) : Bool :=
 (match loopR (zpb_b1 a0) (a0.length - 0) 0 0 with | .error e => e | .ok s1 => ((zt (a0.length : Int) 12) && decide (s1 ≤ 360)))
namespace N203
theorem DD : DOk Tryz.prog (Go.Ab.DD [(112, dP D_zt), (239, dP D_zre), (240, dP D_zvd), (241, dP D_zlc)]) := DD_cons D_zt_ok.e <| DD_cons D_zre_ok.e <| DD_cons D_zvd_ok.e <| DD_cons D_zlc_ok.e <| DD_nil _
theorem dn : type_of% (And.intro @D_zt.eq_1 <| And.intro @D_zre.eq_1 <| And.intro @D_zvd.eq_1 <| @D_zlc.eq_1) := by and_intros <;> intros <;> rfl
theorem den (a0 : (List Sector))  : Den Tryz.prog 203 [encL 3 eSector a0] (.bool (zpb a0)) := by
 generalize hR : zpb a0 = r
 unfold zpb at hR
 refine di Tryz.func203 Tryz.ntmps203 Tryz.results203 ?_
 intro c hL hc hk
 obtain ⟨hL0, _⟩ := hL
 have hw0 : a0.length < 9223372036854775808 := Nat.lt_succ_of_le (lens_encL hL0).1
 have hw1 : ∀ v ∈ a0, bwSector v := fun v hv => Sector_lens v ((lens_encL hL0).2 v hv)
 clear hL0
 simp only [pars, Nat.zero_add]
 iterate 3 refine rS ?_
 refine AWP.block ?_
 generalize hz1 : loopR (zpb_b1 a0) (a0.length - 0) 0 0 = z1 at hR
 refine AWP.range (zpb_b1 a0) (fun i1 s1 => ⟨[(0, encL 3 eSector a0), (3, .int .i64 s1), (8, encL 3 eSector a0), (9, .int .i64 (a0.length : Int)), (10, .int .i64 (i1 : Int))], []⟩) (fun i1 s1 => True) (a0.length) 0 0 [] hz1 ot wt sm ?_
 clear hz1
 intro i1 s1 hi1 hW1 hz1
 refine rS ?_
 refine AWP.seq ?_
 refine AWP.cond rfl (fun hb => ?_) (fun hb => ?_)
 ·have hlt1 : i1 < a0.length := ot
  rw [loopR_lt hlt1] at hz1; simp only [zpb_b1] at hz1
  refine rS ?_
  refine rD 18 ?_
  refine AWP.cond rfl (fun hb => ?_) (fun hb => ?_)
  ·simp only [hb, cond_true] at hz1
   refine rS ?_
   refine AWP.ret ?_
   subst hz1
   dsimp only at hR
   subst hR
   exact es
  ·simp only [hb, cond_false] at hz1
   refine rS ?_
   refine AWP.block ?_
   generalize hz2 : loopR (zpb_b2 a0 i1 s1) (a0.length - 0) 0 () = z2 at hz1
   refine AWP.range (zpb_b2 a0 i1 s1) (fun i2 s2 => ⟨[(0, encL 3 eSector a0), (3, .int .i64 s1), (4, .int .i64 (i1 : Int)), (5, .ptr 0 0), (8, encL 3 eSector a0), (9, .int .i64 (a0.length : Int)), (10, .int .i64 (i1 : Int)), (33, encL 3 eSector a0), (34, .int .i64 (a0.length : Int)), (35, .int .i64 (i2 : Int))], [.box [.int .i64 ((a0.getD i1 default).From), .int .i64 ((a0.getD i1 default).To), .str ((a0.getD i1 default).Color)]]⟩) (fun i2 s2 => True) (a0.length) 0 () [0] hz2 ot wt sm ?_
   clear hz2
   intro i2 s2 hi2 hW2 hz2
   refine rS ?_
   refine AWP.seq ?_
   refine AWP.cond rfl (fun hb => ?_) (fun hb => ?_)
   ·have hlt2 : i2 < a0.length := ot
    rw [loopR_lt hlt2] at hz2; simp only [zpb_b2] at hz2
    iterate 2 refine rS ?_
    refine AWP.cond rfl (fun hb => ?_) (fun hb => ?_)
    ·simp only [hb, cond_true] at hz2
     refine rS ?_
     refine AWP.ret ?_
     subst hz2
     dsimp only at hz1
     subst hz1
     dsimp only at hR
     subst hR
     exact es
    ·simp only [hb, cond_false] at hz2
     refine rS ?_
     exact ⟨_, [0], hlt2, wt, hz2, sm⟩
   ·obtain rfl : i2 = a0.length := ot
    rw [loopR_ge (Nat.le_refl _)] at hz2; subst hz2; dsimp only at hz1
    refine AWP.exit ?_; refine exitTo_here ?_
    iterate 2 refine rS ?_
    exact ⟨_, [], hlt1, wt, hz1, sm⟩
 ·obtain rfl : i1 = a0.length := ot
  rw [loopR_ge (Nat.le_refl _)] at hz1; subst hz1; dsimp only at hR
  refine AWP.exit ?_; refine exitTo_here ?_
  refine rS ?_
  refine AWP.ret ?_
  subst hR
  exact es
end N203
def D_zpb : DF
 | [x0] => some (.bool (zpb (rdL dSector x0)), false, [wL 3 eSector dSector x0])
 | _ => none
theorem D_zpb_ok : OkD Tryz.prog 203 D_zpb := by unfold D_zpb; exact dk N203.den
end Go.Ab

namespace Go.Ab
open Go Go.Proofs
def zqb_b2 (a0 : (List Sector)) (i1 : Nat) (s1 : List UInt8) (i2 : Nat) (s2 : List UInt8) : Except ((List UInt8)) (List UInt8) :=
 (bif ((((a0.getD i2 default).Color) == (([87, 82, 71, 89].take ((IntKind.wrap .i64 ((i1 : Int) + 1)).toNat)).drop i1)) && (!(zx s2 (([87, 82, 71, 89].take ((IntKind.wrap .i64 ((i1 : Int) + 1)).toNat)).drop i1)))) then .ok (s2 ++ (([87, 82, 71, 89].take ((IntKind.wrap .i64 ((i1 : Int) + 1)).toNat)).drop i1)) else .ok s2)
def zqb_b1 (a0 : (List Sector)) (i1 : Nat) (s1 : List UInt8) : Except ((List UInt8)) (List UInt8) :=
 (match loopR (zqb_b2 a0 i1 s1) (a0.length - 0) 0 s1 with | .error e => .error e | .ok s2 => .ok s2)
def zqb (a0 : (List Sector)) : (List UInt8) :=
 (match loopR (zqb_b1 a0) ([87, 82, 71, 89].length - 0) 0 [] with | .error e => e | .ok s1 => s1)
namespace N204
theorem DD : DOk Tryz.prog (Go.Ab.DD [(242, dP D_zx)]) := DD_cons D_zx_ok.e <| DD_nil _
theorem dn : type_of% (@D_zx.eq_1) := by and_intros <;> intros <;> rfl
theorem o0 {p : Prop} (h : p := by (first | (have h4 := hq4 i1; have h1 := hW1; have h2 := hW2; and_intros <;> first | omega | exact wrgy_one (by omega))); first | done | fail) : p := h
theorem den (a0 : (List Sector)) (hb0 : a0.length < 1099511627776) (hb1 : ∀ v ∈ a0, bdSector v) : Den Tryz.prog 204 [encL 3 eSector a0] (.str (zqb a0)) := by
 generalize hR : zqb a0 = r
 unfold zqb at hR
 refine di Tryz.func204 Tryz.ntmps204 Tryz.results204 ?_
 intro c hL hc hk
 obtain ⟨hL0, _⟩ := hL
 have hw0 : a0.length < 9223372036854775808 := Nat.lt_succ_of_le (lens_encL hL0).1
 have hw1 : ∀ v ∈ a0, bwSector v := fun v hv => Sector_lens v ((lens_encL hL0).2 v hv)
 clear hL0
 simp only [pars, Nat.zero_add]
 have hq4 := wrgy_len
 iterate 3 refine rS ?_
 refine AWP.block ?_
 generalize hz1 : loopR (zqb_b1 a0) ([87, 82, 71, 89].length - 0) 0 [] = z1 at hR
 refine AWP.range (zqb_b1 a0) (fun i1 s1 => ⟨[(0, encL 3 eSector a0), (3, .str s1), (8, .ptr 0 0)], [.it [87, 82, 71, 89] i1 (decide (i1 < [87, 82, 71, 89].length))]⟩) (fun i1 s1 => s1.length ≤ 1099511627776 * i1) ([87, 82, 71, 89].length) 0 [] [0] hz1 ot (by (simp)) sm ?_
 clear hz1
 intro i1 s1 hi1 hW1 hz1
 refine AWP.seq ?_
 by_cases hlt1 : i1 < [87, 82, 71, 89].length
 ·rw [loopR_lt hlt1] at hz1; simp only [zqb_b1] at hz1
  rw [decide_eq_true hlt1]
  refine rS ?_
  refine AWP.seq ?_
  refine AWP.cond rfl (fun hb => ?_) (fun hb => nomatch hb)
  iterate 2 refine rS ?_
  refine AWP.block ?_
  generalize hz2 : loopR (zqb_b2 a0 i1 s1) (a0.length - 0) 0 s1 = z2 at hz1
  refine AWP.range (zqb_b2 a0 i1 s1) (fun i2 s2 => ⟨[(0, encL 3 eSector a0), (3, .str s2), (4, .int .i64 (i1 : Int)), (8, .ptr 0 0), (12, encL 3 eSector a0), (13, .int .i64 (a0.length : Int)), (14, .int .i64 (i2 : Int))], [.it [87, 82, 71, 89] (i1 + 1) (decide (i1 + 1 < [87, 82, 71, 89].length))]⟩) (fun i2 s2 => s2.length ≤ 1099511627776 * i1 + i2) (a0.length) 0 s1 [0] hz2 ot (by (exact hW1)) sm ?_
  clear hz2
  intro i2 s2 hi2 hW2 hz2
  refine rS ?_
  refine AWP.seq ?_
  refine AWP.cond rfl (fun hb => ?_) (fun hb => ?_)
  ·have hlt2 : i2 < a0.length := ot
   rw [loopR_lt hlt2] at hz2; simp only [zqb_b2] at hz2
   iterate 3 refine rS ?_
   refine AWP.cond rfl (fun hb => ?_) (fun hb => ?_)
   ·simp only [hb, cond_true] at hz2
    iterate 2 refine rS ?_
    exact ⟨_, [0], hlt2, by (have h4 := hq4 i1; have h2 := hW2; simp only [ln] at *; omega), hz2, sm⟩
   ·simp only [hb, cond_false] at hz2
    refine rS ?_
    exact ⟨_, [0], hlt2, by (have h4 := hq4 i1; have h2 := hW2; simp only [ln] at *; omega), hz2, sm⟩
  ·obtain rfl : i2 = a0.length := ot
   rw [loopR_ge (Nat.le_refl _)] at hz2; subst hz2; dsimp only at hz1
   refine AWP.exit ?_; refine exitTo_here ?_
   exact ⟨_, [0], hlt1, by (have h1 := hW1; omega), hz1, sm⟩
 ·obtain rfl : i1 = [87, 82, 71, 89].length := by omega
  rw [loopR_ge (Nat.le_refl _)] at hz1; subst hz1; dsimp only at hR
  simp only [Nat.lt_irrefl, decide_false]
  refine rS ?_
  refine AWP.seq ?_
  refine AWP.cond rfl (fun hb => nomatch hb) (fun hb => ?_)
  refine AWP.exit ?_; refine exitTo_here ?_
  refine rS ?_
  refine AWP.ret ?_
  subst hR
  exact es
end N204
def D_zqb : DF
 | [x0] => some (.str (zqb (rdL dSector x0)), false, [wL 3 eSector dSector x0, (rdL dSector x0).length < 1099511627776, ∀ v ∈ (rdL dSector x0), bdSector v])
 | _ => none
theorem D_zqb_ok : OkD Tryz.prog 204 D_zqb := by unfold D_zqb; exact dk N204.den
end Go.Ab

namespace Go.Ab
open Go Go.Proofs
def zfe (a0 : Int) : Bool :=
 (zb a0 1 9)
namespace N196
theorem DD : DOk Tryz.prog (Go.Ab.DD [(139, dP D_zb)]) := DD_cons D_zb_ok.e <| DD_nil _
theorem dn : type_of% (@D_zb.eq_1) := by and_intros <;> intros <;> rfl
theorem ol : type_of% (@zb.eq_1) := @zb.eq_1
theorem den (a0 : Int)  : Den Tryz.prog 196 [.int .i64 a0] (.bool (zfe a0)) := by
 generalize hR : zfe a0 = r
 unfold zfe at hR
 refine di Tryz.func196 Tryz.ntmps196 Tryz.results196 ?_
 intro c hL hc hk
 clear hL
 simp only [pars, Nat.zero_add]
 iterate 2 refine rS ?_
 refine AWP.ret ?_
 subst hR
 exact es
end N196
def D_zfe : DF
 | [x0] => some (.bool (zfe (rdI x0)), false, [wI .i64 x0])
 | _ => none
theorem D_zfe_ok : OkD Tryz.prog 196 D_zfe := by unfold D_zfe; exact dk N196.den
end Go.Ab

namespace Go.Ab
open Go Go.Proofs
def zge (a0 : Int) (a1 : Int) : Bool :=
 (decide (0 ≤ a0) && decide (a0 < a1))
namespace N251
theorem DD : DOk Tryz.prog (Go.Ab.DD []) := DD_nil _
theorem den (a0 : Int) (a1 : Int)  : Den Tryz.prog 251 [.int .i64 a0, .int .i64 a1] (.bool (zge a0 a1)) := by
 generalize hR : zge a0 a1 = r
 unfold zge at hR
 refine di Tryz.func251 Tryz.ntmps251 Tryz.results251 ?_
 intro c hL hc hk
 clear hL
 simp only [pars, Nat.zero_add]
 iterate 2 refine rS ?_
 refine AWP.ret ?_
 subst hR
 exact es
end N251
def D_zge : DF
 | [x0, x1] => some (.bool (zge (rdI x0) (rdI x1)), false, [wI .i64 x0, wI .i64 x1])
 | _ => none
theorem D_zge_ok : OkD Tryz.prog 251 D_zge := by unfold D_zge; exact dk N251.den
end Go.Ab

namespace Go.Ab
open Go Go.Proofs
def zmc (a0 : Int) (a1 : (List (List UInt8))) : (List UInt8) :=
 (bif (!(zge a0 (a1.length : Int))) then [] else (a1.getD ((a0).toNat) default))
namespace N232
theorem DD : DOk Tryz.prog (Go.Ab.DD [(251, dP D_zge)]) := DD_cons D_zge_ok.e <| DD_nil _
theorem dn : type_of% (@D_zge.eq_1) := by and_intros <;> intros <;> rfl
theorem ol : type_of% (@zge.eq_1) := @zge.eq_1
theorem den (a0 : Int) (a1 : (List (List UInt8)))  : Den Tryz.prog 232 [.int .i64 a0, encL 1 eS a1] (.str (zmc a0 a1)) := by
 generalize hR : zmc a0 a1 = r
 unfold zmc at hR
 refine di Tryz.func232 Tryz.ntmps232 Tryz.results232 ?_
 intro c hL hc hk
 obtain ⟨hL0, hL1, _⟩ := hL
 have hw0 : a1.length < 9223372036854775808 := Nat.lt_succ_of_le (lens_encL hL1).1
 have hw1 : ∀ v ∈ a1, bwS v := fun v hv => S_lens v ((lens_encL hL1).2 v hv)
 clear hL0 hL1
 simp only [pars, Nat.zero_add]
 iterate 2 refine rS ?_
 refine AWP.cond rfl (fun hb => ?_) (fun hb => ?_)
 ·replace hR := ct hR
  refine rS ?_
  refine AWP.ret ?_
  subst hR
  exact es
 ·replace hR := cf hR
  refine rS ?_
  refine AWP.ret ?_
  subst hR
  exact es
end N232
def D_zmc : DF
 | [x0, x1] => some (.str (zmc (rdI x0) (rdL dS x1)), false, [wI .i64 x0, wL 1 eS dS x1])
 | _ => none
theorem D_zmc_ok : OkD Tryz.prog 232 D_zmc := by unfold D_zmc; exact dk N232.den
end Go.Ab

namespace Go.Ab
open Go Go.Proofs
def zhe (a0 : Int) : (List UInt8) :=
 (zmc a0 ([[], [82], [71], [66, 89], [66, 89, 66], [89, 66], [89, 66, 89], [66, 82, 66], [82, 87], [89]] : List (List UInt8)))
namespace N197
theorem DD : DOk Tryz.prog (Go.Ab.DD [(232, dP D_zmc)]) := DD_cons D_zmc_ok.e <| DD_nil _
theorem dn : type_of% (@D_zmc.eq_1) := by and_intros <;> intros <;> rfl
theorem lx {p : Prop} (h : p := by (exact lxx); first | done | fail) : p := h
theorem den (a0 : Int)  : Den Tryz.prog 197 [.int .i64 a0] (.str (zhe a0)) := by
 generalize hR : zhe a0 = r
 unfold zhe at hR
 refine di Tryz.func197 Tryz.ntmps197 Tryz.results197 ?_
 intro c hL hc hk
 clear hL
 simp only [pars, Nat.zero_add]
 iterate 2 refine rS ?_
 refine AWP.ret ?_
 subst hR
 exact es
end N197
def D_zhe : DF
 | [x0] => some (.str (zhe (rdI x0)), false, [wI .i64 x0])
 | _ => none
theorem D_zhe_ok : OkD Tryz.prog 197 D_zhe := by unfold D_zhe; exact dk N197.den
end Go.Ab

namespace Go.Ab
open Go Go.Proofs
theorem pick_all {P : List UInt8 → Prop} (n : Int) (l : List (List UInt8)) (h0 : P []) (h : ∀ y ∈ l, P y) : P (zmc n l) := by
 unfold zmc
 cases hb : zge n (l.length : Int) with
 | false => exact h0
 | true =>
  simp only [Bool.not_true, cond_false]
  rw [List.getD_eq_getElem?_getD]
  by_cases hi : n.toNat < l.length
  ·rw [List.getElem?_eq_getElem hi]; exact h _ (List.getElem_mem hi)
  ·rw [List.getElem?_eq_none (by omega)]; exact h0
end Go.Ab
