/- A part of a proof: walks of functions and lemmas of our own. No conditions. -/
import Derived.Test.YtaneiddiakjgdaaGreatDoorVAl
import Derived.Test.YtaneiddiakjgdaaGreatDoorVAv
import Derived.Test.YtaneiddiakjgdaaGreatDoorVAi
set_option linter.unusedSectionVars false
set_option linter.unusedVariables false
set_option linter.unusedSimpArgs false
set_option maxHeartbeats 1000000
namespace Go.Ab
open Go Go.Proofs
def zcg (a0 : Int) : (List UInt8) :=
 (([[], [99, 97, 110], [99, 111, 110, 101], [117, 112], [98, 97, 115, 101], [100, 111, 119, 110], [112, 111, 105, 110, 116], [98, 97, 108, 108, 115], [98, 97, 108, 108], [99, 114, 111, 115, 115]] : List (List UInt8)).getD ((a0).toNat) default)
namespace N222
theorem DD : DOk Tryz.prog (Go.Ab.DD []) := DD_nil _
theorem lx {p : Prop} (h : p := by (exact lxx); first | done | fail) : p := h
theorem den (a0 : Int) (hp0 : 0 ≤ a0) (hp1 : a0 ≤ 9) : Den Tryz.prog 222 [.int .i64 a0] (.str (zcg a0)) := by
 generalize hR : zcg a0 = r
 unfold zcg at hR
 refine di Tryz.func222 Tryz.ntmps222 Tryz.results222 ?_
 intro c hL hc hk
 clear hL
 simp only [pars, Nat.zero_add]
 iterate 2 refine rS ?_
 refine AWP.ret ?_
 subst hR
 exact es
end N222
def D_zcg : DF
 | [x0] => some (.str (zcg (rdI x0)), false, [wI .i64 x0, 0 ≤ (rdI x0), (rdI x0) ≤ 9])
 | _ => none
theorem D_zcg_ok : OkD Tryz.prog 222 D_zcg := by unfold D_zcg; exact dk N222.den
end Go.Ab

namespace Go.Ab
open Go Go.Proofs
def znb (a0 : Int) : (List (List UInt8)) :=
 (bif (a0 == 1) then [[99, 97, 110], [112, 105, 108, 108, 97, 114], [115, 112, 97, 114]] else (bif (a0 == 2) then [[99, 111, 110, 101], [112, 105, 108, 108, 97, 114], [115, 112, 97, 114]] else (bif (a0 == 8) then [[115, 112, 104, 101, 114, 101], [112, 105, 108, 108, 97, 114], [115, 112, 97, 114]] else (bif (a0 == 9) then [[99, 97, 110], [99, 111, 110, 101], [112, 105, 108, 108, 97, 114], [115, 112, 97, 114], [115, 112, 104, 101, 114, 101]] else [[112, 105, 108, 108, 97, 114], [115, 112, 97, 114]]))))
namespace N223
theorem DD : DOk Tryz.prog (Go.Ab.DD []) := DD_nil _
theorem lx {p : Prop} (h : p := by (exact lxx); first | done | fail) : p := h
theorem den (a0 : Int)  : Den Tryz.prog 223 [.int .i64 a0] (ownL 9 1 eS (znb a0)) := by
 generalize hR : znb a0 = r
 unfold znb at hR
 refine di Tryz.func223 Tryz.ntmps223 Tryz.results223 ?_
 intro c hL hc hk
 clear hL
 simp only [pars, Nat.zero_add]
 iterate 3 refine rS ?_
 refine AWP.cond rfl (fun hb => ?_) (fun hb => ?_)
 ·replace hR := ct hR
  refine rS ?_
  refine AWP.ret ?_
  subst hR
  exact es
 ·replace hR := cf hR
  refine rS ?_
  refine AWP.cond rfl (fun hb => ?_) (fun hb => ?_)
  ·replace hR := ct hR
   refine rS ?_
   refine AWP.ret ?_
   subst hR
   exact es
  ·replace hR := cf hR
   refine rS ?_
   refine AWP.cond rfl (fun hb => ?_) (fun hb => ?_)
   ·replace hR := ct hR
    refine rS ?_
    refine AWP.ret ?_
    subst hR
    exact es
   ·replace hR := cf hR
    refine rS ?_
    refine AWP.cond rfl (fun hb => ?_) (fun hb => ?_)
    ·replace hR := ct hR
     refine rS ?_
     refine AWP.ret ?_
     subst hR
     exact es
    ·replace hR := cf hR
     refine rS ?_
     refine AWP.ret ?_
     subst hR
     exact es
end N223
def D_znb : DF
 | [x0] => some (ownL 9 1 eS (znb (rdI x0)), false, [wI .i64 x0])
 | _ => none
theorem D_znb_ok : OkD Tryz.prog 223 D_znb := by unfold D_znb; exact dk N223.den
end Go.Ab

namespace Go.Ab
open Go Go.Proofs
def zae_b1 (a0 : Mark) (i1 : Nat) (s1 : Unit) : Except (Bool) (Unit) :=
 (bif (((znb a0.Kind).getD i1 default) == a0.Shape) then .error true else .ok ())
def zae (a0 : Mark) : Bool :=
 (bif (a0.Kind == 0) then (a0.Kind == 0 && (a0.Colors == [] && (a0.Shape == [] && a0.Topmark == []))) else (bif (((!(zvd a0.Kind)) || (a0.Colors != (zbg a0.Kind))) || ((a0.Topmark != []) && (a0.Topmark != (zcg a0.Kind)))) then false else (match loopR (zae_b1 a0) (((znb a0.Kind).length) - 0) 0 () with | .error e => e | .ok s1 => false)))
namespace N189
theorem DD : DOk Tryz.prog (Go.Ab.DD [(220, dP D_zvd), (221, dP D_zbg), (222, dP D_zcg), (223, dP D_znb)]) := DD_cons D_zvd_ok.e <| DD_cons D_zbg_ok.e <| DD_cons D_zcg_ok.e <| DD_cons D_znb_ok.e <| DD_nil _
theorem dn : type_of% (And.intro @D_zvd.eq_1 <| And.intro @D_zbg.eq_1 <| And.intro @D_zcg.eq_1 <| @D_znb.eq_1) := by and_intros <;> intros <;> rfl
theorem o0 {p : Prop} (h : p := by (first | (simp only [zvd, ze]; refine ⟨fun h => ?_, fun h _ => ?_⟩ <;> (simp at h; omega))); first | done | fail) : p := h
theorem den (a0 : Mark)  : Den Tryz.prog 189 [.ep (eMark a0)] (.bool (zae a0)) := by
 generalize hR : zae a0 = r
 unfold zae at hR
 refine di Tryz.func189 Tryz.ntmps189 Tryz.results189 ?_
 intro c hL hc hk
 obtain ⟨hL0, _⟩ := hL
 have hw0 : bwMark a0 := Mark_lens a0 hL0
 clear hL0
 simp only [pars, Nat.zero_add]
 have hs5 : (znb a0.Kind).length ≤ 5 := by unfold znb; simp only [Bool.cond_eq_ite]; (repeat' split) <;> simp
 iterate 2 refine rS ?_
 refine AWP.cond rfl (fun hb => ?_) (fun hb => ?_)
 ·replace hR := ct hR
  refine rS ?_
  refine AWP.ret ?_
  subst hR
  exact es
 ·replace hR := cf hR
  refine rD 37 ?_
  refine AWP.cond rfl (fun hb => ?_) (fun hb => ?_)
  ·replace hR := ct hR
   refine rS ?_
   refine AWP.ret ?_
   subst hR
   exact es
  ·replace hR := cf hR
   iterate 2 refine rS ?_
   refine AWP.block ?_
   generalize hz1 : loopR (zae_b1 a0) (((znb a0.Kind).length) - 0) 0 () = z1 at hR
   refine AWP.range (zae_b1 a0) (fun i1 s1 => ⟨[(0, .ep (eMark a0)), (3, .ref 0 1 0 ((znb a0.Kind).length)), (4, .int .i64 (i1 : Int))], [.arr 9 1 (znb a0.Kind).length (fun j => eS ((znb a0.Kind).getD j default))]⟩) (fun i1 s1 => True) (((znb a0.Kind).length)) 0 () [0] hz1 ot wt sm ?_
   clear hz1
   intro i1 s1 hi1 hW1 hz1
   refine rS ?_
   refine AWP.cond rfl (fun hb => ?_) (fun hb => ?_)
   ·have hlt1 : i1 < ((znb a0.Kind).length) := ot
    rw [loopR_lt hlt1] at hz1; simp only [zae_b1] at hz1
    refine rD 8 ?_
    refine AWP.cond rfl (fun hb => ?_) (fun hb => ?_)
    ·simp only [hb, cond_true] at hz1
     refine rS ?_
     refine AWP.ret ?_
     subst hz1
     dsimp only at hR
     subst hR
     exact es
    ·simp only [hb, cond_false] at hz1
     refine rS ?_
     exact ⟨_, [0], hlt1, wt, hz1, sm⟩
   ·obtain rfl : i1 = ((znb a0.Kind).length) := ot
    rw [loopR_ge (Nat.le_refl _)] at hz1; subst hz1; dsimp only at hR
    refine AWP.exit ?_; refine exitTo_here ?_
    refine rS ?_
    refine AWP.ret ?_
    subst hR
    exact es
end N189
def D_zae : DF
 | [x0] => some (.bool (zae (rdP dMark x0)), false, [wP eMark dMark x0])
 | _ => none
theorem D_zae_ok : OkD Tryz.prog 189 D_zae := by unfold D_zae; exact dk N189.den
end Go.Ab

namespace Go.Ab
open Go Go.Proofs
def zlf (a0 : Mark) : Bool :=
 (zae a0)
namespace N150
theorem DD : DOk Tryz.prog (Go.Ab.DD [(189, dP D_zae)]) := DD_cons D_zae_ok.e <| DD_nil _
theorem dn : type_of% (@D_zae.eq_1) := by and_intros <;> intros <;> rfl
theorem den (a0 : Mark)  : Den Tryz.prog 150 [.agg (eMark a0)] (.bool (zlf a0)) := by
 generalize hR : zlf a0 = r
 unfold zlf at hR
 refine di Tryz.func150 Tryz.ntmps150 Tryz.results150 ?_
 intro c hL hc hk
 obtain ⟨hL0, _⟩ := hL
 have hw0 : bwMark a0 := Mark_lens a0 hL0
 clear hL0
 simp only [pars, Nat.zero_add]
 iterate 2 refine rS ?_
 refine AWP.ret ?_
 subst hR
 exact es
end N150
def D_zlf : DF
 | [x0] => some (.bool (zlf (rdG dMark x0)), false, [wG eMark dMark x0])
 | _ => none
theorem D_zlf_ok : OkD Tryz.prog 150 D_zlf := by unfold D_zlf; exact dk N150.den
end Go.Ab

namespace Go.Ab
open Go Go.Proofs
def zdg (a0 : Point) : Bool :=
 ((ze a0.X 0 200000) && (ze a0.Y 0 200000))
namespace N149
theorem DD : DOk Tryz.prog (Go.Ab.DD [(137, dP D_ze)]) := DD_cons D_ze_ok.e <| DD_nil _
theorem dn : type_of% (@D_ze.eq_1) := by and_intros <;> intros <;> rfl
theorem ol : type_of% (@ze.eq_1) := @ze.eq_1
theorem den (a0 : Point)  : Den Tryz.prog 149 [.agg (ePoint a0)] (.bool (zdg a0)) := by
 generalize hR : zdg a0 = r
 unfold zdg at hR
 refine di Tryz.func149 Tryz.ntmps149 Tryz.results149 ?_
 intro c hL hc hk
 clear hL
 simp only [pars, Nat.zero_add]
 iterate 2 refine rS ?_
 refine AWP.ret ?_
 subst hR
 exact es
end N149
def D_zdg : DF
 | [x0] => some (.bool (zdg (rdG dPoint x0)), false, [wG ePoint dPoint x0])
 | _ => none
theorem D_zdg_ok : OkD Tryz.prog 149 D_zdg := by unfold D_zdg; exact dk N149.den
end Go.Ab

namespace Go.Ab
open Go Go.Proofs
def zbf (a0 : Character) : Bool :=
 (((((a0.Kind == 0) && ((a0.Group.length : Int) == 0)) && (a0.Letter == [])) && (a0.Colors == [])) && (a0.Period == 0))
namespace N151
theorem DD : DOk Tryz.prog (Go.Ab.DD []) := DD_nil _
theorem den (a0 : Character)  : Den Tryz.prog 151 [.ep (eCharacter a0)] (.bool (zbf a0)) := by
 generalize hR : zbf a0 = r
 unfold zbf at hR
 refine di Tryz.func151 Tryz.ntmps151 Tryz.results151 ?_
 intro c hL hc hk
 obtain ⟨hL0, _⟩ := hL
 have hw0 : bwCharacter a0 := Character_lens a0 hL0
 clear hL0
 simp only [pars, Nat.zero_add]
 iterate 2 refine rS ?_
 refine AWP.ret ?_
 subst hR
 exact es
end N151
def D_zbf : DF
 | [x0] => some (.bool (zbf (rdP dCharacter x0)), false, [wP eCharacter dCharacter x0])
 | _ => none
theorem D_zbf_ok : OkD Tryz.prog 151 D_zbf := by unfold D_zbf; exact dk N151.den
end Go.Ab

namespace Go.Ab
open Go Go.Proofs
def zeh (a0 : (List Int)) : (List Int) :=
 ([] : List Int) ++ a0
namespace N207
theorem DD : DOk Tryz.prog (Go.Ab.DD []) := DD_nil _
theorem den (a0 : (List Int)) (hb0 : a0.length < 1099511627776) : Den Tryz.prog 207 [encL 1 eIi64 a0] (ownL 2 1 eIi64 (zeh a0)) := by
 generalize hR : zeh a0 = r
 unfold zeh at hR
 refine di Tryz.func207 Tryz.ntmps207 Tryz.results207 ?_
 intro c hL hc hk
 obtain ⟨hL0, _⟩ := hL
 have hw0 : a0.length < 9223372036854775808 := Nat.lt_succ_of_le (lens_encL hL0).1
 clear hL0
 simp only [pars, Nat.zero_add]
 iterate 2 refine rS ?_
 refine AWP.ret ?_
 subst hR
 exact es
end N207
def D_zeh : DF
 | [x0] => some (ownL 2 1 eIi64 (zeh (rdL dIi64 x0)), false, [wL 1 eIi64 dIi64 x0, (rdL dIi64 x0).length < 1099511627776])
 | _ => none
theorem D_zeh_ok : OkD Tryz.prog 207 D_zeh := by unfold D_zeh; exact dk N207.den
end Go.Ab

namespace Go.Ab
open Go Go.Proofs
def zfh (a0 : Character) : Character :=
 { Kind := a0.Kind, Group := (zeh a0.Group), Letter := a0.Letter, Colors := a0.Colors, Period := a0.Period : Character }
namespace N171
theorem DD : DOk Tryz.prog (Go.Ab.DD [(207, dP D_zeh)]) := DD_cons D_zeh_ok.e <| DD_nil _
theorem dn : type_of% (@D_zeh.eq_1) := by and_intros <;> intros <;> rfl
theorem den (a0 : Character) (hb0 : bdCharacter a0) : Den Tryz.prog 171 [.ep (eCharacter a0)] (.agg (eCharacterO (zfh a0))) := by
 generalize hR : zfh a0 = r
 unfold zfh at hR
 refine di Tryz.func171 Tryz.ntmps171 Tryz.results171 ?_
 intro c hL hc hk
 obtain ⟨hL0, _⟩ := hL
 have hw0 : bwCharacter a0 := Character_lens a0 hL0
 clear hL0
 simp only [pars, Nat.zero_add]
 iterate 4 refine rS ?_
 refine AWP.ret ?_
 subst hR
 exact es
end N171
def D_zfh : DF
 | [x0] => some (.agg (eCharacterO (zfh (rdP dCharacter x0))), false, [wP eCharacter dCharacter x0, bdCharacter (rdP dCharacter x0)])
 | _ => none
theorem D_zfh_ok : OkD Tryz.prog 171 D_zfh := by unfold D_zfh; exact dk N171.den
end Go.Ab

namespace Go.Ab
open Go Go.Proofs
def zfc (a0 : Aid) : Aid :=
 { Number := a0.Number, Name := a0.Name, At := a0.At, Height := a0.Height, Mark := a0.Mark, Light := zfh a0.Light, Sectors := ([] : List Sector) ++ a0.Sectors, Intensity := a0.Intensity : Aid }
namespace N106
theorem DD : DOk Tryz.prog (Go.Ab.DD [(171, dP D_zfh)]) := DD_cons D_zfh_ok.e <| DD_nil _
theorem dn : type_of% (@D_zfh.eq_1) := by and_intros <;> intros <;> rfl
theorem den (a0 : Aid) (hb0 : bdAid a0) : Den Tryz.prog 106 [.ep (eAid a0)] (.agg (eAidO (zfc a0))) := by
 generalize hR : zfc a0 = r
 unfold zfc at hR
 refine di Tryz.func106 Tryz.ntmps106 Tryz.results106 ?_
 intro c hL hc hk
 obtain ⟨hL0, _⟩ := hL
 have hw0 : bwAid a0 := Aid_lens a0 hL0
 clear hL0
 simp only [pars, Nat.zero_add]
 iterate 5 refine rS ?_
 refine AWP.ret ?_
 subst hR
 exact es
end N106
def D_zfc : DF
 | [x0] => some (.agg (eAidO (zfc (rdP dAid x0))), false, [wP eAid dAid x0, bdAid (rdP dAid x0)])
 | _ => none
theorem D_zfc_ok : OkD Tryz.prog 106 D_zfc := by unfold D_zfc; exact dk N106.den
end Go.Ab

namespace Go.Ab
open Go Go.Proofs
def zu_b1 (a0 : (List Aid)) (i1 : Nat) (s1 : List Aid) : Except ((List Aid)) (List Aid) :=
 .ok (s1 ++ [zfc (a0.getD i1 default)])
def zu (a0 : (List Aid)) : (List Aid) :=
 (match loopR (zu_b1 a0) (a0.length - 0) 0 ([] : List Aid) with | .error e => e | .ok s1 => s1)
namespace N155
theorem DD : DOk Tryz.prog (Go.Ab.DD [(106, dP D_zfc)]) := DD_cons D_zfc_ok.e <| DD_nil _
theorem dn : type_of% (@D_zfc.eq_1) := by and_intros <;> intros <;> rfl
theorem den (a0 : (List Aid)) (hb0 : a0.length < 1099511627776) (hb1 : ∀ v ∈ a0, bdAid v) (hp0 : a0.length ≤ 1073741824) : Den Tryz.prog 155 [encL 16 eAid a0] (ownL 63 16 eAidO (zu a0)) := by
 generalize hR : zu a0 = r
 unfold zu at hR
 refine di Tryz.func155 Tryz.ntmps155 Tryz.results155 ?_
 intro c hL hc hk
 obtain ⟨hL0, _⟩ := hL
 have hw0 : a0.length < 9223372036854775808 := Nat.lt_succ_of_le (lens_encL hL0).1
 have hw1 : ∀ v ∈ a0, bwAid v := fun v hv => Aid_lens v ((lens_encL hL0).2 v hv)
 clear hL0
 simp only [pars, Nat.zero_add]
 iterate 3 refine rS ?_
 refine AWP.block ?_
 generalize hz1 : loopR (zu_b1 a0) (a0.length - 0) 0 ([] : List Aid) = z1 at hR
 refine AWP.range (zu_b1 a0) (fun i1 s1 => ⟨[(0, encL 16 eAid a0), (3, .ref 0 16 0 s1.length), (4, .int .i64 (i1 : Int))], [.arr 63 16 s1.length (fun j => eAidO (s1.getD j default))]⟩) (fun i1 s1 => s1.length ≤ ([] : List Aid).length + 1 * i1) (a0.length) 0 ([] : List Aid) [0] hz1 ot wt sm ?_
 clear hz1
 intro i1 s1 hi1 hW1 hz1
 refine rS ?_
 refine AWP.cond rfl (fun hb => ?_) (fun hb => ?_)
 ·have hlt1 : i1 < a0.length := ot
  rw [loopR_lt hlt1] at hz1; simp only [zu_b1] at hz1
  iterate 2 refine rS ?_
  exact ⟨_, [4], hlt1, wt, hz1, sm⟩
 ·obtain rfl : i1 = a0.length := ot
  rw [loopR_ge (Nat.le_refl _)] at hz1; subst hz1; dsimp only at hR
  refine AWP.exit ?_; refine exitTo_here ?_
  refine rS ?_
  refine AWP.ret ?_
  subst hR
  exact es
end N155
def D_zu : DF
 | [x0] => some (ownL 63 16 eAidO (zu (rdL dAid x0)), false, [wL 16 eAid dAid x0, (rdL dAid x0).length < 1099511627776, ∀ v ∈ (rdL dAid x0), bdAid v, (rdL dAid x0).length ≤ 1073741824])
 | _ => none
theorem D_zu_ok : OkD Tryz.prog 155 D_zu := by unfold D_zu; exact dk N155.den
end Go.Ab

namespace Go.Ab
open Go Go.Proofs
def zh_b1 (a0 : (List Aid)) (a1 : Int) (i1 : Nat) (s1 : Unit) : Except (Int) (Unit) :=
 (bif (((a0.getD i1 default).Number) == a1) then .error (i1 : Int) else .ok ())
def zh (a0 : (List Aid)) (a1 : Int) : Int :=
 (match loopR (zh_b1 a0 a1) (a0.length - 0) 0 () with | .error e => e | .ok s1 => (-1))
namespace N142
theorem DD : DOk Tryz.prog (Go.Ab.DD []) := DD_nil _
theorem den (a0 : (List Aid)) (a1 : Int)  : Den Tryz.prog 142 [encL 16 eAid a0, .int .i64 a1] (.int .i64 (zh a0 a1)) := by
 generalize hR : zh a0 a1 = r
 unfold zh at hR
 refine di Tryz.func142 Tryz.ntmps142 Tryz.results142 ?_
 intro c hL hc hk
 obtain ⟨hL0, hL1, _⟩ := hL
 have hw0 : a0.length < 9223372036854775808 := Nat.lt_succ_of_le (lens_encL hL0).1
 have hw1 : ∀ v ∈ a0, bwAid v := fun v hv => Aid_lens v ((lens_encL hL0).2 v hv)
 clear hL0 hL1
 simp only [pars, Nat.zero_add]
 iterate 2 refine rS ?_
 refine AWP.block ?_
 generalize hz1 : loopR (zh_b1 a0 a1) (a0.length - 0) 0 () = z1 at hR
 refine AWP.range (zh_b1 a0 a1) (fun i1 s1 => ⟨[(0, encL 16 eAid a0), (1, .int .i64 a1), (5, .int .i64 (i1 : Int))], []⟩) (fun i1 s1 => True) (a0.length) 0 () [] hz1 ot wt sm ?_
 clear hz1
 intro i1 s1 hi1 hW1 hz1
 refine rS ?_
 refine AWP.cond rfl (fun hb => ?_) (fun hb => ?_)
 ·have hlt1 : i1 < a0.length := ot
  rw [loopR_lt hlt1] at hz1; simp only [zh_b1] at hz1
  refine rS ?_
  refine AWP.cond rfl (fun hb => ?_) (fun hb => ?_)
  ·simp only [hb, cond_true] at hz1
   refine rS ?_
   refine AWP.ret ?_
   subst hz1
   dsimp only at hR
   subst hR
   exact es
  ·simp only [hb, cond_false] at hz1
   refine rS ?_
   exact ⟨_, [], hlt1, wt, hz1, sm⟩
 ·obtain rfl : i1 = a0.length := ot
  rw [loopR_ge (Nat.le_refl _)] at hz1; subst hz1; dsimp only at hR
  refine AWP.exit ?_; refine exitTo_here ?_
  refine rS ?_
  refine AWP.ret ?_
  subst hR
  exact es
end N142
def D_zh : DF
 | [x0, x1] => some (.int .i64 (zh (rdL dAid x0) (rdI x1)), false, [wL 16 eAid dAid x0, wI .i64 x1])
 | _ => none
theorem D_zh_ok : OkD Tryz.prog 142 D_zh := by unfold D_zh; exact dk N142.den
end Go.Ab

namespace Go.Ab
open Go Go.Proofs
theorem find_first (l : List Aid) (n : Int) : (∃ j, j < l.length ∧ (l.getD j default).Number = n ∧ (∀ q, q < j → (l.getD q default).Number ≠ n) ∧ zh l n = (j : Int)) ∨ ((∀ q, q < l.length → (l.getD q default).Number ≠ n) ∧ zh l n = -1) := by
 unfold zh
 rcases loopR_first (b := zh_b1 l n) (fun j => (l.getD j default).Number == n) (fun j => (j : Int)) (k := l.length - 0) (i := 0) (s := ()) (fun j u _ _ => rfl) with ⟨j, _, h2, h3, h4, h5⟩ | ⟨h1, h2⟩
 ·left
  rw [h5]
  exact ⟨j, by omega, by simpa using h3, fun q hq => by simpa using h4 q (Nat.zero_le _) hq, rfl⟩
 ·right
  rw [h2]
  exact ⟨fun q hq => by simpa using h1 q (Nat.zero_le _) (by omega), rfl⟩
theorem zh_lt (l : List Aid) (n : Int) : -1 ≤ zh l n ∧ zh l n < l.length := by
 rcases find_first l n with ⟨j, h1, _, _, h2⟩ | ⟨_, h2⟩ <;> omega
end Go.Ab

namespace Go.Ab
open Go Go.Proofs
def zcf_b1 (a0 : (List Sector)) (a1 : (List Sector)) (i1 : Nat) (s1 : Unit) : Except (Bool) (Unit) :=
 (bif (!(((a0.getD i1 default).From) == ((a1.getD i1 default).From) && (((a0.getD i1 default).To) == ((a1.getD i1 default).To) && ((a0.getD i1 default).Color) == ((a1.getD i1 default).Color)))) then .error false else .ok ())
def zcf (a0 : (List Sector)) (a1 : (List Sector)) : Bool :=
 (bif ((a0.length : Int) != (a1.length : Int)) then false else (match loopR (zcf_b1 a0 a1) (a0.length - 0) 0 () with | .error e => e | .ok s1 => true))
namespace N170
theorem DD : DOk Tryz.prog (Go.Ab.DD []) := DD_nil _
theorem den (a0 : (List Sector)) (a1 : (List Sector))  : Den Tryz.prog 170 [encL 3 eSector a0, encL 3 eSector a1] (.bool (zcf a0 a1)) := by
 generalize hR : zcf a0 a1 = r
 unfold zcf at hR
 refine di Tryz.func170 Tryz.ntmps170 Tryz.results170 ?_
 intro c hL hc hk
 obtain ⟨hL0, hL1, _⟩ := hL
 have hw0 : a0.length < 9223372036854775808 := Nat.lt_succ_of_le (lens_encL hL0).1
 have hw1 : ∀ v ∈ a0, bwSector v := fun v hv => Sector_lens v ((lens_encL hL0).2 v hv)
 have hw2 : a1.length < 9223372036854775808 := Nat.lt_succ_of_le (lens_encL hL1).1
 have hw3 : ∀ v ∈ a1, bwSector v := fun v hv => Sector_lens v ((lens_encL hL1).2 v hv)
 clear hL0 hL1
 simp only [pars, Nat.zero_add]
 iterate 2 refine rS ?_
 refine AWP.cond rfl (fun hb => ?_) (fun hb => ?_)
 ·replace hR := ct hR
  refine rS ?_
  refine AWP.ret ?_
  subst hR
  exact es
 ·replace hR := cf hR
  refine rS ?_
  refine AWP.block ?_
  generalize hz1 : loopR (zcf_b1 a0 a1) (a0.length - 0) 0 () = z1 at hR
  refine AWP.range (zcf_b1 a0 a1) (fun i1 s1 => ⟨[(0, encL 3 eSector a0), (1, encL 3 eSector a1), (5, .int .i64 (i1 : Int))], []⟩) (fun i1 s1 => True) (a0.length) 0 () [] hz1 ot wt sm ?_
  clear hz1
  intro i1 s1 hi1 hW1 hz1
  refine rS ?_
  refine AWP.cond rfl (fun hb => ?_) (fun hb => ?_)
  ·have hlt1 : i1 < a0.length := ot
   rw [loopR_lt hlt1] at hz1; simp only [zcf_b1] at hz1
   refine rD 8 ?_
   refine AWP.cond rfl (fun hb => ?_) (fun hb => ?_)
   ·simp only [hb, cond_true] at hz1
    refine rS ?_
    refine AWP.ret ?_
    subst hz1
    dsimp only at hR
    subst hR
    exact es
   ·simp only [hb, cond_false] at hz1
    refine rS ?_
    exact ⟨_, [], hlt1, wt, hz1, sm⟩
  ·obtain rfl : i1 = a0.length := ot
   rw [loopR_ge (Nat.le_refl _)] at hz1; subst hz1; dsimp only at hR
   refine AWP.exit ?_; refine exitTo_here ?_
   refine rS ?_
   refine AWP.ret ?_
   subst hR
   exact es
end N170
def D_zcf : DF
 | [x0, x1] => some (.bool (zcf (rdL dSector x0) (rdL dSector x1)), false, [wL 3 eSector dSector x0, wL 3 eSector dSector x1])
 | _ => none
theorem D_zcf_ok : OkD Tryz.prog 170 D_zcf := by unfold D_zcf; exact dk N170.den
end Go.Ab

namespace Go.Ab
open Go Go.Proofs
def zdf_b1 (a0 : (List Int)) (a1 : (List Int)) (i1 : Nat) (s1 : Unit) : Except (Bool) (Unit) :=
 (bif ((a0.getD i1 default) != (a1.getD i1 default)) then .error false else .ok ())
def zdf (a0 : (List Int)) (a1 : (List Int)) : Bool :=
 (bif ((a0.length : Int) != (a1.length : Int)) then false else (match loopR (zdf_b1 a0 a1) (a0.length - 0) 0 () with | .error e => e | .ok s1 => true))
namespace N206
theorem DD : DOk Tryz.prog (Go.Ab.DD []) := DD_nil _
theorem den (a0 : (List Int)) (a1 : (List Int))  : Den Tryz.prog 206 [encL 1 eIi64 a0, encL 1 eIi64 a1] (.bool (zdf a0 a1)) := by
 generalize hR : zdf a0 a1 = r
 unfold zdf at hR
 refine di Tryz.func206 Tryz.ntmps206 Tryz.results206 ?_
 intro c hL hc hk
 obtain ⟨hL0, hL1, _⟩ := hL
 have hw0 : a0.length < 9223372036854775808 := Nat.lt_succ_of_le (lens_encL hL0).1
 have hw1 : a1.length < 9223372036854775808 := Nat.lt_succ_of_le (lens_encL hL1).1
 clear hL0 hL1
 simp only [pars, Nat.zero_add]
 iterate 2 refine rS ?_
 refine AWP.cond rfl (fun hb => ?_) (fun hb => ?_)
 ·replace hR := ct hR
  refine rS ?_
  refine AWP.ret ?_
  subst hR
  exact es
 ·replace hR := cf hR
  refine rS ?_
  refine AWP.block ?_
  generalize hz1 : loopR (zdf_b1 a0 a1) (a0.length - 0) 0 () = z1 at hR
  refine AWP.range (zdf_b1 a0 a1) (fun i1 s1 => ⟨[(0, encL 1 eIi64 a0), (1, encL 1 eIi64 a1), (5, .int .i64 (i1 : Int))], []⟩) (fun i1 s1 => True) (a0.length) 0 () [] hz1 ot wt sm ?_
  clear hz1
  intro i1 s1 hi1 hW1 hz1
  refine rS ?_
  refine AWP.cond rfl (fun hb => ?_) (fun hb => ?_)
  ·have hlt1 : i1 < a0.length := ot
   rw [loopR_lt hlt1] at hz1; simp only [zdf_b1] at hz1
   refine rD 8 ?_
   refine AWP.cond rfl (fun hb => ?_) (fun hb => ?_)
   ·simp only [hb, cond_true] at hz1
    refine rS ?_
    refine AWP.ret ?_
    subst hz1
    dsimp only at hR
    subst hR
    exact es
   ·simp only [hb, cond_false] at hz1
    refine rS ?_
    exact ⟨_, [], hlt1, wt, hz1, sm⟩
  ·obtain rfl : i1 = a0.length := ot
   rw [loopR_ge (Nat.le_refl _)] at hz1; subst hz1; dsimp only at hR
   refine AWP.exit ?_; refine exitTo_here ?_
   refine rS ?_
   refine AWP.ret ?_
   subst hR
   exact es
end N206
def D_zdf : DF
 | [x0, x1] => some (.bool (zdf (rdL dIi64 x0) (rdL dIi64 x1)), false, [wL 1 eIi64 dIi64 x0, wL 1 eIi64 dIi64 x1])
 | _ => none
theorem D_zdf_ok : OkD Tryz.prog 206 D_zdf := by unfold D_zdf; exact dk N206.den
end Go.Ab

namespace Go.Ab
open Go Go.Proofs
def zqg (a0 : Character) (a1 : Character) : Bool :=
 (((((a0.Kind == a1.Kind) && (zdf a0.Group a1.Group)) && (a0.Letter == a1.Letter)) && (a0.Colors == a1.Colors)) && (a0.Period == a1.Period))
namespace N169
theorem DD : DOk Tryz.prog (Go.Ab.DD [(206, dP D_zdf)]) := DD_cons D_zdf_ok.e <| DD_nil _
theorem dn : type_of% (@D_zdf.eq_1) := by and_intros <;> intros <;> rfl
theorem den (a0 : Character) (a1 : Character)  : Den Tryz.prog 169 [.ep (eCharacter a0), .ep (eCharacter a1)] (.bool (zqg a0 a1)) := by
 generalize hR : zqg a0 a1 = r
 unfold zqg at hR
 refine di Tryz.func169 Tryz.ntmps169 Tryz.results169 ?_
 intro c hL hc hk
 obtain ⟨hL0, hL1, _⟩ := hL
 have hw0 : bwCharacter a0 := Character_lens a0 hL0
 have hw1 : bwCharacter a1 := Character_lens a1 hL1
 clear hL0 hL1
 simp only [pars, Nat.zero_add]
 refine rS ?_
 refine rD 53 ?_
 refine AWP.ret ?_
 subst hR
 exact es
end N169
def D_zqg : DF
 | [x0, x1] => some (.bool (zqg (rdP dCharacter x0) (rdP dCharacter x1)), false, [wP eCharacter dCharacter x0, wP eCharacter dCharacter x1])
 | _ => none
theorem D_zqg_ok : OkD Tryz.prog 169 D_zqg := by unfold D_zqg; exact dk N169.den
end Go.Ab

namespace Go.Ab
open Go Go.Proofs
def zhb (a0 : Aid) (a1 : Aid) : Bool :=
 ((((((((a0.Number == a1.Number) && (a0.Name == a1.Name)) && (a0.At.X == a1.At.X && a0.At.Y == a1.At.Y)) && (a0.Height == a1.Height)) && (a0.Mark.Kind == a1.Mark.Kind && (a0.Mark.Colors == a1.Mark.Colors && (a0.Mark.Shape == a1.Mark.Shape && a0.Mark.Topmark == a1.Mark.Topmark)))) && (zqg a0.Light a1.Light)) && (zcf a0.Sectors a1.Sectors)) && (a0.Intensity == a1.Intensity))
namespace N105
theorem DD : DOk Tryz.prog (Go.Ab.DD [(169, dP D_zqg), (170, dP D_zcf)]) := DD_cons D_zqg_ok.e <| DD_cons D_zcf_ok.e <| DD_nil _
theorem dn : type_of% (And.intro @D_zqg.eq_1 <| @D_zcf.eq_1) := by and_intros <;> intros <;> rfl
set_option maxHeartbeats 4000000 in
set_option maxRecDepth 20000 in
theorem den (a0 : Aid) (a1 : Aid)  : Den Tryz.prog 105 [.ep (eAid a0), .ep (eAid a1)] (.bool (zhb a0 a1)) := by
 generalize hR : zhb a0 a1 = r
 unfold zhb at hR
 refine di Tryz.func105 Tryz.ntmps105 Tryz.results105 ?_
 intro c hL hc hk
 obtain ⟨hL0, hL1, _⟩ := hL
 have hw0 : bwAid a0 := Aid_lens a0 hL0
 have hw1 : bwAid a1 := Aid_lens a1 hL1
 clear hL0 hL1
 simp only [pars, Nat.zero_add]
 refine rS ?_
 refine rD 84 ?_
 refine AWP.ret ?_
 subst hR
 exact es
end N105
def D_zhb : DF
 | [x0, x1] => some (.bool (zhb (rdP dAid x0) (rdP dAid x1)), false, [wP eAid dAid x0, wP eAid dAid x1])
 | _ => none
theorem D_zhb_ok : OkD Tryz.prog 105 D_zhb := by unfold D_zhb; exact dk N105.den
end Go.Ab
