/- A part of a proof: walks of functions and lemmas of our own. No conditions. -/
import Derived.Test.YtaneiddiakjgdaaGreatDoorUAl
import Derived.Test.YtaneiddiakjgdaaGreatDoorUAv
set_option linter.unusedSectionVars false
set_option linter.unusedVariables false
set_option linter.unusedSimpArgs false
set_option maxHeartbeats 1000000
namespace Go.Ab
open Go Go.Proofs
def zle (a0 : Int) : (List UInt8) :=
 (([[], [99, 97, 110], [99, 111, 110, 101], [117, 112], [98, 97, 115, 101], [100, 111, 119, 110], [112, 111, 105, 110, 116], [98, 97, 108, 108, 115], [98, 97, 108, 108], [99, 114, 111, 115, 115]] : List (List UInt8)).getD ((a0).toNat) default)
namespace N222
theorem DD : DOk Tryz.prog (Go.Ab.DD []) := DD_nil _
theorem lx {p : Prop} (h : p := by (exact lxx); first | done | fail) : p := h
theorem den (a0 : Int) (hp0 : 0 ≤ a0) (hp1 : a0 ≤ 9) : Den Tryz.prog 222 [.int .i64 a0] (.str (zle a0)) := by
 generalize hR : zle a0 = r
 unfold zle at hR
 refine di Tryz.func222 Tryz.ntmps222 Tryz.results222 ?_
 intro c hL hc hk
 clear hL
 simp only [pars, Nat.zero_add]
 iterate 2 refine rS ?_
 refine AWP.ret ?_
 subst hR
 exact es
end N222
def D_zle : DF
 | [x0] => some (.str (zle (rdI x0)), false, [wI .i64 x0, 0 ≤ (rdI x0), (rdI x0) ≤ 9])
 | _ => none
theorem D_zle_ok : OkD Tryz.prog 222 D_zle := by unfold D_zle; exact dk N222.den
end Go.Ab

namespace Go.Ab
open Go Go.Proofs
def zz (a0 : Int) : (List (List UInt8)) :=
 (bif (a0 == 1) then [[99, 97, 110], [112, 105, 108, 108, 97, 114], [115, 112, 97, 114]] else (bif (a0 == 2) then [[99, 111, 110, 101], [112, 105, 108, 108, 97, 114], [115, 112, 97, 114]] else (bif (a0 == 8) then [[115, 112, 104, 101, 114, 101], [112, 105, 108, 108, 97, 114], [115, 112, 97, 114]] else (bif (a0 == 9) then [[99, 97, 110], [99, 111, 110, 101], [112, 105, 108, 108, 97, 114], [115, 112, 97, 114], [115, 112, 104, 101, 114, 101]] else [[112, 105, 108, 108, 97, 114], [115, 112, 97, 114]]))))
namespace N223
theorem DD : DOk Tryz.prog (Go.Ab.DD []) := DD_nil _
theorem lx {p : Prop} (h : p := by (exact lxx); first | done | fail) : p := h
theorem den (a0 : Int)  : Den Tryz.prog 223 [.int .i64 a0] (ownL 9 1 eS (zz a0)) := by
 generalize hR : zz a0 = r
 unfold zz at hR
 refine di Tryz.func223 Tryz.ntmps223 Tryz.results223 ?_
 intro c hL hc hk
 clear hL
 simp only [pars, Nat.zero_add]
 iterate 3 refine rS ?_
 refine AWP.cond rfl (fun hb => ?_) (fun hb => ?_)
 ·replace hR := ct hR
  refine rS ?_
  refine AWP.ret ?_
  subst hR
  exact es
 ·replace hR := cf hR
  refine rS ?_
  refine AWP.cond rfl (fun hb => ?_) (fun hb => ?_)
  ·replace hR := ct hR
   refine rS ?_
   refine AWP.ret ?_
   subst hR
   exact es
  ·replace hR := cf hR
   refine rS ?_
   refine AWP.cond rfl (fun hb => ?_) (fun hb => ?_)
   ·replace hR := ct hR
    refine rS ?_
    refine AWP.ret ?_
    subst hR
    exact es
   ·replace hR := cf hR
    refine rS ?_
    refine AWP.cond rfl (fun hb => ?_) (fun hb => ?_)
    ·replace hR := ct hR
     refine rS ?_
     refine AWP.ret ?_
     subst hR
     exact es
    ·replace hR := cf hR
     refine rS ?_
     refine AWP.ret ?_
     subst hR
     exact es
end N223
def D_zz : DF
 | [x0] => some (ownL 9 1 eS (zz (rdI x0)), false, [wI .i64 x0])
 | _ => none
theorem D_zz_ok : OkD Tryz.prog 223 D_zz := by unfold D_zz; exact dk N223.den
end Go.Ab

namespace Go.Ab
open Go Go.Proofs
def zxc_b1 (a0 : Mark) (i1 : Nat) (s1 : Unit) : Except (Bool) (Unit) :=
 (bif (((zz a0.Kind).getD i1 default) == a0.Shape) then .error true else .ok ())
def zxc (a0 : Mark) : Bool :=
 (bif (a0.Kind == 0) then (a0.Kind == 0 && (a0.Colors == [] && (a0.Shape == [] && a0.Topmark == []))) else (bif (((!(zrc a0.Kind)) || (a0.Colors != (zke a0.Kind))) || ((a0.Topmark != []) && (a0.Topmark != (zle a0.Kind)))) then false else (match loopR (zxc_b1 a0) (((zz a0.Kind).length) - 0) 0 () with | .error e => e | .ok s1 => false)))
namespace N189
theorem DD : DOk Tryz.prog (Go.Ab.DD [(220, dP D_zrc), (221, dP D_zke), (222, dP D_zle), (223, dP D_zz)]) := DD_cons D_zrc_ok.e <| DD_cons D_zke_ok.e <| DD_cons D_zle_ok.e <| DD_cons D_zz_ok.e <| DD_nil _
theorem dn : type_of% (And.intro @D_zrc.eq_1 <| And.intro @D_zke.eq_1 <| And.intro @D_zle.eq_1 <| @D_zz.eq_1) := by and_intros <;> intros <;> rfl
theorem o0 {p : Prop} (h : p := by (first | (simp only [zrc, zh]; refine ⟨fun h => ?_, fun h _ => ?_⟩ <;> (simp at h; omega))); first | done | fail) : p := h
theorem den (a0 : Mark)  : Den Tryz.prog 189 [.ep (eMark a0)] (.bool (zxc a0)) := by
 generalize hR : zxc a0 = r
 unfold zxc at hR
 refine di Tryz.func189 Tryz.ntmps189 Tryz.results189 ?_
 intro c hL hc hk
 obtain ⟨hL0, _⟩ := hL
 have hw0 : bwMark a0 := Mark_lens a0 hL0
 clear hL0
 simp only [pars, Nat.zero_add]
 have hs5 : (zz a0.Kind).length ≤ 5 := by unfold zz; simp only [Bool.cond_eq_ite]; (repeat' split) <;> simp
 iterate 2 refine rS ?_
 refine AWP.cond rfl (fun hb => ?_) (fun hb => ?_)
 ·replace hR := ct hR
  refine rS ?_
  refine AWP.ret ?_
  subst hR
  exact es
 ·replace hR := cf hR
  refine rD 37 ?_
  refine AWP.cond rfl (fun hb => ?_) (fun hb => ?_)
  ·replace hR := ct hR
   refine rS ?_
   refine AWP.ret ?_
   subst hR
   exact es
  ·replace hR := cf hR
   iterate 2 refine rS ?_
   refine AWP.block ?_
   generalize hz1 : loopR (zxc_b1 a0) (((zz a0.Kind).length) - 0) 0 () = z1 at hR
   refine AWP.range (zxc_b1 a0) (fun i1 s1 => ⟨[(0, .ep (eMark a0)), (3, .ref 0 1 0 ((zz a0.Kind).length)), (4, .int .i64 (i1 : Int))], [.arr 9 1 (zz a0.Kind).length (fun j => eS ((zz a0.Kind).getD j default))]⟩) (fun i1 s1 => True) (((zz a0.Kind).length)) 0 () [0] hz1 ot wt sm ?_
   clear hz1
   intro i1 s1 hi1 hW1 hz1
   refine rS ?_
   refine AWP.cond rfl (fun hb => ?_) (fun hb => ?_)
   ·have hlt1 : i1 < ((zz a0.Kind).length) := ot
    rw [loopR_lt hlt1] at hz1; simp only [zxc_b1] at hz1
    refine rD 8 ?_
    refine AWP.cond rfl (fun hb => ?_) (fun hb => ?_)
    ·simp only [hb, cond_true] at hz1
     refine rS ?_
     refine AWP.ret ?_
     subst hz1
     dsimp only at hR
     subst hR
     exact es
    ·simp only [hb, cond_false] at hz1
     refine rS ?_
     exact ⟨_, [0], hlt1, wt, hz1, sm⟩
   ·obtain rfl : i1 = ((zz a0.Kind).length) := ot
    rw [loopR_ge (Nat.le_refl _)] at hz1; subst hz1; dsimp only at hR
    refine AWP.exit ?_; refine exitTo_here ?_
    refine rS ?_
    refine AWP.ret ?_
    subst hR
    exact es
end N189
def D_zxc : DF
 | [x0] => some (.bool (zxc (rdP dMark x0)), false, [wP eMark dMark x0])
 | _ => none
theorem D_zxc_ok : OkD Tryz.prog 189 D_zxc := by unfold D_zxc; exact dk N189.den
end Go.Ab

namespace Go.Ab
open Go Go.Proofs
def zwd (a0 : Mark) : Bool :=
 (zxc a0)
namespace N150
theorem DD : DOk Tryz.prog (Go.Ab.DD [(189, dP D_zxc)]) := DD_cons D_zxc_ok.e <| DD_nil _
theorem dn : type_of% (@D_zxc.eq_1) := by and_intros <;> intros <;> rfl
theorem den (a0 : Mark)  : Den Tryz.prog 150 [.agg (eMark a0)] (.bool (zwd a0)) := by
 generalize hR : zwd a0 = r
 unfold zwd at hR
 refine di Tryz.func150 Tryz.ntmps150 Tryz.results150 ?_
 intro c hL hc hk
 obtain ⟨hL0, _⟩ := hL
 have hw0 : bwMark a0 := Mark_lens a0 hL0
 clear hL0
 simp only [pars, Nat.zero_add]
 iterate 2 refine rS ?_
 refine AWP.ret ?_
 subst hR
 exact es
end N150
def D_zwd : DF
 | [x0] => some (.bool (zwd (rdG dMark x0)), false, [wG eMark dMark x0])
 | _ => none
theorem D_zwd_ok : OkD Tryz.prog 150 D_zwd := by unfold D_zwd; exact dk N150.den
end Go.Ab

namespace Go.Ab
open Go Go.Proofs
def zme (a0 : Point) : Bool :=
 ((zh a0.X 0 200000) && (zh a0.Y 0 200000))
namespace N149
theorem DD : DOk Tryz.prog (Go.Ab.DD [(137, dP D_zh)]) := DD_cons D_zh_ok.e <| DD_nil _
theorem dn : type_of% (@D_zh.eq_1) := by and_intros <;> intros <;> rfl
theorem ol : type_of% (@zh.eq_1) := @zh.eq_1
theorem den (a0 : Point)  : Den Tryz.prog 149 [.agg (ePoint a0)] (.bool (zme a0)) := by
 generalize hR : zme a0 = r
 unfold zme at hR
 refine di Tryz.func149 Tryz.ntmps149 Tryz.results149 ?_
 intro c hL hc hk
 clear hL
 simp only [pars, Nat.zero_add]
 iterate 2 refine rS ?_
 refine AWP.ret ?_
 subst hR
 exact es
end N149
def D_zme : DF
 | [x0] => some (.bool (zme (rdG dPoint x0)), false, [wG ePoint dPoint x0])
 | _ => none
theorem D_zme_ok : OkD Tryz.prog 149 D_zme := by unfold D_zme; exact dk N149.den
end Go.Ab

namespace Go.Ab
open Go Go.Proofs
def zsd (a0 : Character) : Bool :=
 (((((a0.Kind == 0) && ((a0.Group.length : Int) == 0)) && (a0.Letter == [])) && (a0.Colors == [])) && (a0.Period == 0))
namespace N151
theorem DD : DOk Tryz.prog (Go.Ab.DD []) := DD_nil _
theorem den (a0 : Character)  : Den Tryz.prog 151 [.ep (eCharacter a0)] (.bool (zsd a0)) := by
 generalize hR : zsd a0 = r
 unfold zsd at hR
 refine di Tryz.func151 Tryz.ntmps151 Tryz.results151 ?_
 intro c hL hc hk
 obtain ⟨hL0, _⟩ := hL
 have hw0 : bwCharacter a0 := Character_lens a0 hL0
 clear hL0
 simp only [pars, Nat.zero_add]
 iterate 2 refine rS ?_
 refine AWP.ret ?_
 subst hR
 exact es
end N151
def D_zsd : DF
 | [x0] => some (.bool (zsd (rdP dCharacter x0)), false, [wP eCharacter dCharacter x0])
 | _ => none
theorem D_zsd_ok : OkD Tryz.prog 151 D_zsd := by unfold D_zsd; exact dk N151.den
end Go.Ab

namespace Go.Ab
open Go Go.Proofs
def zkf (a0 : (List Int)) : (List Int) :=
 ([] : List Int) ++ a0
namespace N207
theorem DD : DOk Tryz.prog (Go.Ab.DD []) := DD_nil _
theorem den (a0 : (List Int)) (hb0 : a0.length < 1099511627776) : Den Tryz.prog 207 [encL 1 eIi64 a0] (ownL 2 1 eIi64 (zkf a0)) := by
 generalize hR : zkf a0 = r
 unfold zkf at hR
 refine di Tryz.func207 Tryz.ntmps207 Tryz.results207 ?_
 intro c hL hc hk
 obtain ⟨hL0, _⟩ := hL
 have hw0 : a0.length < 9223372036854775808 := Nat.lt_succ_of_le (lens_encL hL0).1
 clear hL0
 simp only [pars, Nat.zero_add]
 iterate 2 refine rS ?_
 refine AWP.ret ?_
 subst hR
 exact es
end N207
def D_zkf : DF
 | [x0] => some (ownL 2 1 eIi64 (zkf (rdL dIi64 x0)), false, [wL 1 eIi64 dIi64 x0, (rdL dIi64 x0).length < 1099511627776])
 | _ => none
theorem D_zkf_ok : OkD Tryz.prog 207 D_zkf := by unfold D_zkf; exact dk N207.den
end Go.Ab

namespace Go.Ab
open Go Go.Proofs
def zlf (a0 : Character) : Character :=
 { Kind := a0.Kind, Group := (zkf a0.Group), Letter := a0.Letter, Colors := a0.Colors, Period := a0.Period : Character }
namespace N171
theorem DD : DOk Tryz.prog (Go.Ab.DD [(207, dP D_zkf)]) := DD_cons D_zkf_ok.e <| DD_nil _
theorem dn : type_of% (@D_zkf.eq_1) := by and_intros <;> intros <;> rfl
theorem den (a0 : Character) (hb0 : bdCharacter a0) : Den Tryz.prog 171 [.ep (eCharacter a0)] (.agg (eCharacterO (zlf a0))) := by
 generalize hR : zlf a0 = r
 unfold zlf at hR
 refine di Tryz.func171 Tryz.ntmps171 Tryz.results171 ?_
 intro c hL hc hk
 obtain ⟨hL0, _⟩ := hL
 have hw0 : bwCharacter a0 := Character_lens a0 hL0
 clear hL0
 simp only [pars, Nat.zero_add]
 iterate 4 refine rS ?_
 refine AWP.ret ?_
 subst hR
 exact es
end N171
def D_zlf : DF
 | [x0] => some (.agg (eCharacterO (zlf (rdP dCharacter x0))), false, [wP eCharacter dCharacter x0, bdCharacter (rdP dCharacter x0)])
 | _ => none
theorem D_zlf_ok : OkD Tryz.prog 171 D_zlf := by unfold D_zlf; exact dk N171.den
end Go.Ab

namespace Go.Ab
open Go Go.Proofs
def zgc (a0 : Aid) : Aid :=
 { Number := a0.Number, Name := a0.Name, At := a0.At, Height := a0.Height, Mark := a0.Mark, Light := zlf a0.Light, Sectors := ([] : List Sector) ++ a0.Sectors, Intensity := a0.Intensity : Aid }
namespace N106
theorem DD : DOk Tryz.prog (Go.Ab.DD [(171, dP D_zlf)]) := DD_cons D_zlf_ok.e <| DD_nil _
theorem dn : type_of% (@D_zlf.eq_1) := by and_intros <;> intros <;> rfl
theorem den (a0 : Aid) (hb0 : bdAid a0) : Den Tryz.prog 106 [.ep (eAid a0)] (.agg (eAidO (zgc a0))) := by
 generalize hR : zgc a0 = r
 unfold zgc at hR
 refine di Tryz.func106 Tryz.ntmps106 Tryz.results106 ?_
 intro c hL hc hk
 obtain ⟨hL0, _⟩ := hL
 have hw0 : bwAid a0 := Aid_lens a0 hL0
 clear hL0
 simp only [pars, Nat.zero_add]
 iterate 5 refine rS ?_
 refine AWP.ret ?_
 subst hR
 exact es
end N106
def D_zgc : DF
 | [x0] => some (.agg (eAidO (zgc (rdP dAid x0))), false, [wP eAid dAid x0, bdAid (rdP dAid x0)])
 | _ => none
theorem D_zgc_ok : OkD Tryz.prog 106 D_zgc := by unfold D_zgc; exact dk N106.den
end Go.Ab

namespace Go.Ab
open Go Go.Proofs
def zsc_b1 (a0 : (List Aid)) (i1 : Nat) (s1 : List Aid) : Except ((List Aid)) (List Aid) :=
 .ok (s1 ++ [zgc (a0.getD i1 default)])
def zsc (a0 : (List Aid)) : (List Aid) :=
 (match loopR (zsc_b1 a0) (a0.length - 0) 0 ([] : List Aid) with | .error e => e | .ok s1 => s1)
namespace N155
theorem DD : DOk Tryz.prog (Go.Ab.DD [(106, dP D_zgc)]) := DD_cons D_zgc_ok.e <| DD_nil _
theorem dn : type_of% (@D_zgc.eq_1) := by and_intros <;> intros <;> rfl
theorem den (a0 : (List Aid)) (hb0 : a0.length < 1099511627776) (hb1 : ∀ v ∈ a0, bdAid v) (hp0 : a0.length ≤ 1073741824) : Den Tryz.prog 155 [encL 16 eAid a0] (ownL 63 16 eAidO (zsc a0)) := by
 generalize hR : zsc a0 = r
 unfold zsc at hR
 refine di Tryz.func155 Tryz.ntmps155 Tryz.results155 ?_
 intro c hL hc hk
 obtain ⟨hL0, _⟩ := hL
 have hw0 : a0.length < 9223372036854775808 := Nat.lt_succ_of_le (lens_encL hL0).1
 have hw1 : ∀ v ∈ a0, bwAid v := fun v hv => Aid_lens v ((lens_encL hL0).2 v hv)
 clear hL0
 simp only [pars, Nat.zero_add]
 iterate 3 refine rS ?_
 refine AWP.block ?_
 generalize hz1 : loopR (zsc_b1 a0) (a0.length - 0) 0 ([] : List Aid) = z1 at hR
 refine AWP.range (zsc_b1 a0) (fun i1 s1 => ⟨[(0, encL 16 eAid a0), (3, .ref 0 16 0 s1.length), (4, .int .i64 (i1 : Int))], [.arr 63 16 s1.length (fun j => eAidO (s1.getD j default))]⟩) (fun i1 s1 => s1.length ≤ ([] : List Aid).length + 1 * i1) (a0.length) 0 ([] : List Aid) [0] hz1 ot wt sm ?_
 clear hz1
 intro i1 s1 hi1 hW1 hz1
 refine rS ?_
 refine AWP.cond rfl (fun hb => ?_) (fun hb => ?_)
 ·have hlt1 : i1 < a0.length := ot
  rw [loopR_lt hlt1] at hz1; simp only [zsc_b1] at hz1
  iterate 2 refine rS ?_
  exact ⟨_, [4], hlt1, wt, hz1, sm⟩
 ·obtain rfl : i1 = a0.length := ot
  rw [loopR_ge (Nat.le_refl _)] at hz1; subst hz1; dsimp only at hR
  refine AWP.exit ?_; refine exitTo_here ?_
  refine rS ?_
  refine AWP.ret ?_
  subst hR
  exact es
end N155
def D_zsc : DF
 | [x0] => some (ownL 63 16 eAidO (zsc (rdL dAid x0)), false, [wL 16 eAid dAid x0, (rdL dAid x0).length < 1099511627776, ∀ v ∈ (rdL dAid x0), bdAid v, (rdL dAid x0).length ≤ 1073741824])
 | _ => none
theorem D_zsc_ok : OkD Tryz.prog 155 D_zsc := by unfold D_zsc; exact dk N155.den
end Go.Ab
