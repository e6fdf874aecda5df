/- A part of a proof: walks of functions and lemmas of our own. No conditions. -/
import Derived.Test.YtaneiddiakjgdaaGreatDoorTAl
import Derived.Test.YtaneiddiakjgdaaGreatDoorTAr
import Derived.Test.YtaneiddiakjgdaaGreatDoorTAi
set_option linter.unusedSectionVars false
set_option linter.unusedVariables false
set_option linter.unusedSimpArgs false
set_option maxHeartbeats 1000000
namespace Go.Ab
open Go Go.Proofs
def spec_l11Topmark (a0 : Int) : (List UInt8) :=
  (([[], [99, 97, 110], [99, 111, 110, 101], [117, 112], [98, 97, 115, 101], [100, 111, 119, 110], [112, 111, 105, 110, 116], [98, 97, 108, 108, 115], [98, 97, 108, 108], [99, 114, 111, 115, 115]] : List (List UInt8)).getD ((a0).toNat) default)
namespace N222
theorem DD : DOk Tryz.prog (Go.Ab.DD []) := DD_nil _
theorem lx {p : Prop} (h : p := by (exact lxx); first | done | fail) : p := h
theorem den (a0 : Int) (hp0 : 0 ≤ a0) (hp1 : a0 ≤ 9) : Den Tryz.prog 222 [.int .i64 a0] (.str (spec_l11Topmark a0)) := by
  generalize hR : spec_l11Topmark a0 = r
  unfold spec_l11Topmark at hR
  refine di Tryz.func222 Tryz.ntmps222 Tryz.results222 ?_
  intro c hL hc hk
  clear hL
  simp only [pars, Nat.zero_add]
  iterate 2 refine rS ?_
  refine AWP.ret ?_
  subst hR
  exact es
end N222
def D_spec_l11Topmark : DF
  | [x0] => some (.str (spec_l11Topmark (rdI x0)), false, [wI .i64 x0, 0 ≤ (rdI x0), (rdI x0) ≤ 9])
  | _ => none
theorem D_spec_l11Topmark_ok : OkD Tryz.prog 222 D_spec_l11Topmark := by unfold D_spec_l11Topmark; exact dk N222.den
end Go.Ab

namespace Go.Ab
open Go Go.Proofs
def spec_l11Shapes (a0 : Int) : (List (List UInt8)) :=
  (bif (a0 == 1) then [[99, 97, 110], [112, 105, 108, 108, 97, 114], [115, 112, 97, 114]] else (bif (a0 == 2) then [[99, 111, 110, 101], [112, 105, 108, 108, 97, 114], [115, 112, 97, 114]] else (bif (a0 == 8) then [[115, 112, 104, 101, 114, 101], [112, 105, 108, 108, 97, 114], [115, 112, 97, 114]] else (bif (a0 == 9) then [[99, 97, 110], [99, 111, 110, 101], [112, 105, 108, 108, 97, 114], [115, 112, 97, 114], [115, 112, 104, 101, 114, 101]] else [[112, 105, 108, 108, 97, 114], [115, 112, 97, 114]]))))
namespace N223
theorem DD : DOk Tryz.prog (Go.Ab.DD []) := DD_nil _
theorem lx {p : Prop} (h : p := by (exact lxx); first | done | fail) : p := h
theorem den (a0 : Int)  : Den Tryz.prog 223 [.int .i64 a0] (ownL 9 1 eS (spec_l11Shapes a0)) := by
  generalize hR : spec_l11Shapes a0 = r
  unfold spec_l11Shapes at hR
  refine di Tryz.func223 Tryz.ntmps223 Tryz.results223 ?_
  intro c hL hc hk
  clear hL
  simp only [pars, Nat.zero_add]
  iterate 3 refine rS ?_
  refine AWP.cond rfl (fun hb => ?_) (fun hb => ?_)
  · replace hR := ct hR
    refine rS ?_
    refine AWP.ret ?_
    subst hR
    exact es
  · replace hR := cf hR
    refine rS ?_
    refine AWP.cond rfl (fun hb => ?_) (fun hb => ?_)
    · replace hR := ct hR
      refine rS ?_
      refine AWP.ret ?_
      subst hR
      exact es
    · replace hR := cf hR
      refine rS ?_
      refine AWP.cond rfl (fun hb => ?_) (fun hb => ?_)
      · replace hR := ct hR
        refine rS ?_
        refine AWP.ret ?_
        subst hR
        exact es
      · replace hR := cf hR
        refine rS ?_
        refine AWP.cond rfl (fun hb => ?_) (fun hb => ?_)
        · replace hR := ct hR
          refine rS ?_
          refine AWP.ret ?_
          subst hR
          exact es
        · replace hR := cf hR
          refine rS ?_
          refine AWP.ret ?_
          subst hR
          exact es
end N223
def D_spec_l11Shapes : DF
  | [x0] => some (ownL 9 1 eS (spec_l11Shapes (rdI x0)), false, [wI .i64 x0])
  | _ => none
def Dz_spec_l11Shapes : DF
  | [x0] => some (ownL 9 1 eS (spec_l11Shapes (rdI x0)), true, [wI .i64 x0])
  | _ => none
theorem D_spec_l11Shapes_ok : OkD Tryz.prog 223 D_spec_l11Shapes := by unfold D_spec_l11Shapes; exact dk N223.den
theorem Dz_spec_l11Shapes_ok : OkD Tryz.prog 223 Dz_spec_l11Shapes := by unfold Dz_spec_l11Shapes; exact dk N223.den
end Go.Ab

namespace Go.Ab
open Go Go.Proofs
def spec_l11Ok_b1 (a0 : Mark) (i1 : Nat) (s1 : Unit) : Except (Bool) (Unit) :=
  (bif (((spec_l11Shapes a0.Kind).getD i1 default) == a0.Shape) then .error true else .ok ())
def spec_l11Ok (a0 : Mark) : Bool :=
  (bif (a0.Kind == 0) then (a0.Kind == 0 && (a0.Colors == [] && (a0.Shape == [] && a0.Topmark == []))) else (bif (((!(spec_l11Kind a0.Kind)) || (a0.Colors != (spec_l11Colors a0.Kind))) || ((a0.Topmark != []) && (a0.Topmark != (spec_l11Topmark a0.Kind)))) then false else (match loopR (spec_l11Ok_b1 a0) (((spec_l11Shapes a0.Kind).length) - 0) 0 () with | .error e => e | .ok s1 => false)))
namespace N189
theorem DD : DOk Tryz.prog (Go.Ab.DD [(220, dP D_spec_l11Kind), (221, dP D_spec_l11Colors), (222, dP D_spec_l11Topmark), (223, dP D_spec_l11Shapes)]) := DD_cons D_spec_l11Kind_ok.e <| DD_cons D_spec_l11Colors_ok.e <| DD_cons D_spec_l11Topmark_ok.e <| DD_cons D_spec_l11Shapes_ok.e <| DD_nil _
theorem dn : type_of% (And.intro @D_spec_l11Kind.eq_1 <| And.intro @D_spec_l11Colors.eq_1 <| And.intro @D_spec_l11Topmark.eq_1 <| @D_spec_l11Shapes.eq_1) := by and_intros <;> intros <;> rfl
theorem o0 {p : Prop} (h : p := by (first | (simp only [spec_l11Kind, spec_l00In]; refine ⟨fun h => ?_, fun h _ => ?_⟩ <;> (simp at h; omega))); first | done | fail) : p := h
theorem den (a0 : Mark)  : Den Tryz.prog 189 [.ep (eMark a0)] (.bool (spec_l11Ok a0)) := by
  generalize hR : spec_l11Ok a0 = r
  unfold spec_l11Ok at hR
  refine di Tryz.func189 Tryz.ntmps189 Tryz.results189 ?_
  intro c hL hc hk
  obtain ⟨hL0, _⟩ := hL
  have hw0 : bwMark a0 := Mark_lens a0 hL0
  clear hL0
  simp only [pars, Nat.zero_add]
  have hs5 : (spec_l11Shapes a0.Kind).length ≤ 5 := by unfold spec_l11Shapes; simp only [Bool.cond_eq_ite]; (repeat' split) <;> simp
  iterate 2 refine rS ?_
  refine AWP.cond rfl (fun hb => ?_) (fun hb => ?_)
  · replace hR := ct hR
    refine rS ?_
    refine AWP.ret ?_
    subst hR
    exact es
  · replace hR := cf hR
    refine rD 37 ?_
    refine AWP.cond rfl (fun hb => ?_) (fun hb => ?_)
    · replace hR := ct hR
      refine rS ?_
      refine AWP.ret ?_
      subst hR
      exact es
    · replace hR := cf hR
      iterate 2 refine rS ?_
      refine AWP.block ?_
      generalize hz1 : loopR (spec_l11Ok_b1 a0) (((spec_l11Shapes a0.Kind).length) - 0) 0 () = z1 at hR
      refine AWP.range (spec_l11Ok_b1 a0) (fun i1 s1 => ⟨[(0, .ep (eMark a0)), (3, .ref 0 1 0 ((spec_l11Shapes a0.Kind).length)), (4, .int .i64 (i1 : Int))], [.arr 9 1 (spec_l11Shapes a0.Kind).length (fun j => eS ((spec_l11Shapes a0.Kind).getD j default))]⟩) (fun i1 s1 => True) (((spec_l11Shapes a0.Kind).length)) 0 () [0] hz1 ot wt sm ?_
      clear hz1
      intro i1 s1 hi1 hW1 hz1
      refine rS ?_
      refine AWP.cond rfl (fun hb => ?_) (fun hb => ?_)
      · have hlt1 : i1 < ((spec_l11Shapes a0.Kind).length) := ot
        rw [loopR_lt hlt1] at hz1; simp only [spec_l11Ok_b1] at hz1
        refine rD 8 ?_
        refine AWP.cond rfl (fun hb => ?_) (fun hb => ?_)
        · simp only [hb, cond_true] at hz1
          refine rS ?_
          refine AWP.ret ?_
          subst hz1
          dsimp only at hR
          subst hR
          exact es
        · simp only [hb, cond_false] at hz1
          refine rS ?_
          exact ⟨_, [0], hlt1, wt, hz1, sm⟩
      · obtain rfl : i1 = ((spec_l11Shapes a0.Kind).length) := ot
        rw [loopR_ge (Nat.le_refl _)] at hz1; subst hz1; dsimp only at hR
        refine AWP.exit ?_; refine exitTo_here ?_
        refine rS ?_
        refine AWP.ret ?_
        subst hR
        exact es
end N189
def D_spec_l11Ok : DF
  | [x0] => some (.bool (spec_l11Ok (rdP dMark x0)), false, [wP eMark dMark x0])
  | _ => none
theorem D_spec_l11Ok_ok : OkD Tryz.prog 189 D_spec_l11Ok := by unfold D_spec_l11Ok; exact dk N189.den
end Go.Ab

namespace Go.Ab
open Go Go.Proofs
def spec_ValidMark (a0 : Mark) : Bool :=
  (spec_l11Ok a0)
namespace N150
theorem DD : DOk Tryz.prog (Go.Ab.DD [(189, dP D_spec_l11Ok)]) := DD_cons D_spec_l11Ok_ok.e <| DD_nil _
theorem dn : type_of% (@D_spec_l11Ok.eq_1) := by and_intros <;> intros <;> rfl
theorem den (a0 : Mark)  : Den Tryz.prog 150 [.agg (eMark a0)] (.bool (spec_ValidMark a0)) := by
  generalize hR : spec_ValidMark a0 = r
  unfold spec_ValidMark at hR
  refine di Tryz.func150 Tryz.ntmps150 Tryz.results150 ?_
  intro c hL hc hk
  obtain ⟨hL0, _⟩ := hL
  have hw0 : bwMark a0 := Mark_lens a0 hL0
  clear hL0
  simp only [pars, Nat.zero_add]
  iterate 2 refine rS ?_
  refine AWP.ret ?_
  subst hR
  exact es
end N150
def D_spec_ValidMark : DF
  | [x0] => some (.bool (spec_ValidMark (rdG dMark x0)), false, [wG eMark dMark x0])
  | _ => none
theorem D_spec_ValidMark_ok : OkD Tryz.prog 150 D_spec_ValidMark := by unfold D_spec_ValidMark; exact dk N150.den
end Go.Ab

namespace Go.Ab
open Go Go.Proofs
def spec_l02Ok (a0 : Point) : Bool :=
  ((spec_l00In a0.X 0 200000) && (spec_l00In a0.Y 0 200000))
namespace N149
theorem DD : DOk Tryz.prog (Go.Ab.DD [(137, dP D_spec_l00In)]) := DD_cons D_spec_l00In_ok.e <| DD_nil _
theorem dn : type_of% (@D_spec_l00In.eq_1) := by and_intros <;> intros <;> rfl
theorem ol : type_of% (@spec_l00In.eq_1) := @spec_l00In.eq_1
theorem den (a0 : Point)  : Den Tryz.prog 149 [.agg (ePoint a0)] (.bool (spec_l02Ok a0)) := by
  generalize hR : spec_l02Ok a0 = r
  unfold spec_l02Ok at hR
  refine di Tryz.func149 Tryz.ntmps149 Tryz.results149 ?_
  intro c hL hc hk
  clear hL
  simp only [pars, Nat.zero_add]
  iterate 2 refine rS ?_
  refine AWP.ret ?_
  subst hR
  exact es
end N149
def D_spec_l02Ok : DF
  | [x0] => some (.bool (spec_l02Ok (rdG dPoint x0)), false, [wG ePoint dPoint x0])
  | _ => none
theorem D_spec_l02Ok_ok : OkD Tryz.prog 149 D_spec_l02Ok := by unfold D_spec_l02Ok; exact dk N149.den
end Go.Ab

namespace Go.Ab
open Go Go.Proofs
def spec_l12Plain (a0 : Character) : Bool :=
  (((((a0.Kind == 0) && ((a0.Group.length : Int) == 0)) && (a0.Letter == [])) && (a0.Colors == [])) && (a0.Period == 0))
namespace N151
theorem DD : DOk Tryz.prog (Go.Ab.DD []) := DD_nil _
theorem den (a0 : Character)  : Den Tryz.prog 151 [.ep (eCharacter a0)] (.bool (spec_l12Plain a0)) := by
  generalize hR : spec_l12Plain a0 = r
  unfold spec_l12Plain at hR
  refine di Tryz.func151 Tryz.ntmps151 Tryz.results151 ?_
  intro c hL hc hk
  obtain ⟨hL0, _⟩ := hL
  have hw0 : bwCharacter a0 := Character_lens a0 hL0
  clear hL0
  simp only [pars, Nat.zero_add]
  iterate 2 refine rS ?_
  refine AWP.ret ?_
  subst hR
  exact es
end N151
def D_spec_l12Plain : DF
  | [x0] => some (.bool (spec_l12Plain (rdP dCharacter x0)), false, [wP eCharacter dCharacter x0])
  | _ => none
theorem D_spec_l12Plain_ok : OkD Tryz.prog 151 D_spec_l12Plain := by unfold D_spec_l12Plain; exact dk N151.den
end Go.Ab

namespace Go.Ab
open Go Go.Proofs
def spec_l00Own (a0 : (List Int)) : (List Int) :=
  ([] : List Int) ++ a0
namespace N207
theorem DD : DOk Tryz.prog (Go.Ab.DD []) := DD_nil _
theorem den (a0 : (List Int)) (hb0 : a0.length < 1099511627776) : Den Tryz.prog 207 [encL 1 eIi64 a0] (ownL 2 1 eIi64 (spec_l00Own a0)) := by
  generalize hR : spec_l00Own a0 = r
  unfold spec_l00Own at hR
  refine di Tryz.func207 Tryz.ntmps207 Tryz.results207 ?_
  intro c hL hc hk
  obtain ⟨hL0, _⟩ := hL
  have hw0 : a0.length < 9223372036854775808 := Nat.lt_succ_of_le (lens_encL hL0).1
  clear hL0
  simp only [pars, Nat.zero_add]
  iterate 2 refine rS ?_
  refine AWP.ret ?_
  subst hR
  exact es
end N207
def D_spec_l00Own : DF
  | [x0] => some (ownL 2 1 eIi64 (spec_l00Own (rdL dIi64 x0)), false, [wL 1 eIi64 dIi64 x0, (rdL dIi64 x0).length < 1099511627776])
  | _ => none
def Dz_spec_l00Own : DF
  | [x0] => some (ownL 2 1 eIi64 (spec_l00Own (rdL dIi64 x0)), true, [wL 1 eIi64 dIi64 x0, (rdL dIi64 x0).length < 1099511627776])
  | _ => none
theorem D_spec_l00Own_ok : OkD Tryz.prog 207 D_spec_l00Own := by unfold D_spec_l00Own; exact dk N207.den
theorem Dz_spec_l00Own_ok : OkD Tryz.prog 207 Dz_spec_l00Own := by unfold Dz_spec_l00Own; exact dk N207.den
end Go.Ab

namespace Go.Ab
open Go Go.Proofs
def spec_l05Own (a0 : Character) : Character :=
  { Kind := a0.Kind, Group := (spec_l00Own a0.Group), Letter := a0.Letter, Colors := a0.Colors, Period := a0.Period : Character }
namespace N171
theorem DD : DOk Tryz.prog (Go.Ab.DD [(207, dP D_spec_l00Own)]) := DD_cons D_spec_l00Own_ok.e <| DD_nil _
theorem dn : type_of% (@D_spec_l00Own.eq_1) := by and_intros <;> intros <;> rfl
theorem den (a0 : Character) (hb0 : bdCharacter a0) : Den Tryz.prog 171 [.ep (eCharacter a0)] (.agg (eCharacterO (spec_l05Own a0))) := by
  generalize hR : spec_l05Own a0 = r
  unfold spec_l05Own at hR
  refine di Tryz.func171 Tryz.ntmps171 Tryz.results171 ?_
  intro c hL hc hk
  obtain ⟨hL0, _⟩ := hL
  have hw0 : bwCharacter a0 := Character_lens a0 hL0
  clear hL0
  simp only [pars, Nat.zero_add]
  iterate 4 refine rS ?_
  refine AWP.ret ?_
  subst hR
  exact es
end N171
def D_spec_l05Own : DF
  | [x0] => some (.agg (eCharacterO (spec_l05Own (rdP dCharacter x0))), false, [wP eCharacter dCharacter x0, bdCharacter (rdP dCharacter x0)])
  | _ => none
def Dz_spec_l05Own : DF
  | [x0] => some (.agg (eCharacterO (spec_l05Own (rdP dCharacter x0))), true, [wP eCharacter dCharacter x0, bdCharacter (rdP dCharacter x0)])
  | _ => none
theorem D_spec_l05Own_ok : OkD Tryz.prog 171 D_spec_l05Own := by unfold D_spec_l05Own; exact dk N171.den
theorem Dz_spec_l05Own_ok : OkD Tryz.prog 171 Dz_spec_l05Own := by unfold Dz_spec_l05Own; exact dk N171.den
end Go.Ab

namespace Go.Ab
open Go Go.Proofs
def spec_l12Own (a0 : Aid) : Aid :=
  { Number := a0.Number, Name := a0.Name, At := a0.At, Height := a0.Height, Mark := a0.Mark, Light := spec_l05Own a0.Light, Sectors := ([] : List Sector) ++ a0.Sectors, Intensity := a0.Intensity : Aid }
namespace N106
theorem DD : DOk Tryz.prog (Go.Ab.DD [(171, dP D_spec_l05Own)]) := DD_cons D_spec_l05Own_ok.e <| DD_nil _
theorem dn : type_of% (@D_spec_l05Own.eq_1) := by and_intros <;> intros <;> rfl
theorem den (a0 : Aid) (hb0 : bdAid a0) : Den Tryz.prog 106 [.ep (eAid a0)] (.agg (eAidO (spec_l12Own a0))) := by
  generalize hR : spec_l12Own a0 = r
  unfold spec_l12Own at hR
  refine di Tryz.func106 Tryz.ntmps106 Tryz.results106 ?_
  intro c hL hc hk
  obtain ⟨hL0, _⟩ := hL
  have hw0 : bwAid a0 := Aid_lens a0 hL0
  clear hL0
  simp only [pars, Nat.zero_add]
  iterate 5 refine rS ?_
  refine AWP.ret ?_
  subst hR
  exact es
end N106
def D_spec_l12Own : DF
  | [x0] => some (.agg (eAidO (spec_l12Own (rdP dAid x0))), false, [wP eAid dAid x0, bdAid (rdP dAid x0)])
  | _ => none
def Dz_spec_l12Own : DF
  | [x0] => some (.agg (eAidO (spec_l12Own (rdP dAid x0))), true, [wP eAid dAid x0, bdAid (rdP dAid x0)])
  | _ => none
theorem D_spec_l12Own_ok : OkD Tryz.prog 106 D_spec_l12Own := by unfold D_spec_l12Own; exact dk N106.den
theorem Dz_spec_l12Own_ok : OkD Tryz.prog 106 Dz_spec_l12Own := by unfold Dz_spec_l12Own; exact dk N106.den
end Go.Ab

namespace Go.Ab
open Go Go.Proofs
def spec_l12OwnAll_b1 (a0 : (List Aid)) (i1 : Nat) (s1 : List Aid) : Except ((List Aid)) (List Aid) :=
  .ok (s1 ++ [spec_l12Own (a0.getD i1 default)])
def spec_l12OwnAll (a0 : (List Aid)) : (List Aid) :=
  (match loopR (spec_l12OwnAll_b1 a0) (a0.length - 0) 0 ([] : List Aid) with | .error e => e | .ok s1 => s1)
namespace N155
theorem DD : DOk Tryz.prog (Go.Ab.DD [(106, dP D_spec_l12Own)]) := DD_cons D_spec_l12Own_ok.e <| DD_nil _
theorem dn : type_of% (@D_spec_l12Own.eq_1) := by and_intros <;> intros <;> rfl
theorem den (a0 : (List Aid)) (hb0 : a0.length < 1099511627776) (hb1 : ∀ v ∈ a0, bdAid v) (hp0 : a0.length ≤ 1073741824) : Den Tryz.prog 155 [encL 16 eAid a0] (ownL 63 16 eAidO (spec_l12OwnAll a0)) := by
  generalize hR : spec_l12OwnAll a0 = r
  unfold spec_l12OwnAll at hR
  refine di Tryz.func155 Tryz.ntmps155 Tryz.results155 ?_
  intro c hL hc hk
  obtain ⟨hL0, _⟩ := hL
  have hw0 : a0.length < 9223372036854775808 := Nat.lt_succ_of_le (lens_encL hL0).1
  have hw1 : ∀ v ∈ a0, bwAid v := fun v hv => Aid_lens v ((lens_encL hL0).2 v hv)
  clear hL0
  simp only [pars, Nat.zero_add]
  iterate 3 refine rS ?_
  refine AWP.block ?_
  generalize hz1 : loopR (spec_l12OwnAll_b1 a0) (a0.length - 0) 0 ([] : List Aid) = z1 at hR
  refine AWP.range (spec_l12OwnAll_b1 a0) (fun i1 s1 => ⟨[(0, encL 16 eAid a0), (3, .ref 0 16 0 s1.length), (4, .int .i64 (i1 : Int))], [.arr 63 16 s1.length (fun j => eAidO (s1.getD j default))]⟩) (fun i1 s1 => s1.length ≤ ([] : List Aid).length + 1 * i1) (a0.length) 0 ([] : List Aid) [0] hz1 ot wt sm ?_
  clear hz1
  intro i1 s1 hi1 hW1 hz1
  refine rS ?_
  refine AWP.cond rfl (fun hb => ?_) (fun hb => ?_)
  · have hlt1 : i1 < a0.length := ot
    rw [loopR_lt hlt1] at hz1; simp only [spec_l12OwnAll_b1] at hz1
    iterate 2 refine rS ?_
    exact ⟨_, [4], hlt1, wt, hz1, sm⟩
  · obtain rfl : i1 = a0.length := ot
    rw [loopR_ge (Nat.le_refl _)] at hz1; subst hz1; dsimp only at hR
    refine AWP.exit ?_; refine exitTo_here ?_
    refine rS ?_
    refine AWP.ret ?_
    subst hR
    exact es
end N155
def D_spec_l12OwnAll : DF
  | [x0] => some (ownL 63 16 eAidO (spec_l12OwnAll (rdL dAid x0)), false, [wL 16 eAid dAid x0, (rdL dAid x0).length < 1099511627776, ∀ v ∈ (rdL dAid x0), bdAid v, (rdL dAid x0).length ≤ 1073741824])
  | _ => none
def Dz_spec_l12OwnAll : DF
  | [x0] => some (ownL 63 16 eAidO (spec_l12OwnAll (rdL dAid x0)), true, [wL 16 eAid dAid x0, (rdL dAid x0).length < 1099511627776, ∀ v ∈ (rdL dAid x0), bdAid v, (rdL dAid x0).length ≤ 1073741824])
  | _ => none
theorem D_spec_l12OwnAll_ok : OkD Tryz.prog 155 D_spec_l12OwnAll := by unfold D_spec_l12OwnAll; exact dk N155.den
theorem Dz_spec_l12OwnAll_ok : OkD Tryz.prog 155 Dz_spec_l12OwnAll := by unfold Dz_spec_l12OwnAll; exact dk N155.den
end Go.Ab

namespace Go.Ab
open Go Go.Proofs
def spec_l12Find_b1 (a0 : (List Aid)) (a1 : Int) (i1 : Nat) (s1 : Unit) : Except (Int) (Unit) :=
  (bif (((a0.getD i1 default).Number) == a1) then .error (i1 : Int) else .ok ())
def spec_l12Find (a0 : (List Aid)) (a1 : Int) : Int :=
  (match loopR (spec_l12Find_b1 a0 a1) (a0.length - 0) 0 () with | .error e => e | .ok s1 => (-1))
namespace N142
theorem DD : DOk Tryz.prog (Go.Ab.DD []) := DD_nil _
theorem den (a0 : (List Aid)) (a1 : Int)  : Den Tryz.prog 142 [encL 16 eAid a0, .int .i64 a1] (.int .i64 (spec_l12Find a0 a1)) := by
  generalize hR : spec_l12Find a0 a1 = r
  unfold spec_l12Find at hR
  refine di Tryz.func142 Tryz.ntmps142 Tryz.results142 ?_
  intro c hL hc hk
  obtain ⟨hL0, hL1, _⟩ := hL
  have hw0 : a0.length < 9223372036854775808 := Nat.lt_succ_of_le (lens_encL hL0).1
  have hw1 : ∀ v ∈ a0, bwAid v := fun v hv => Aid_lens v ((lens_encL hL0).2 v hv)
  clear hL0 hL1
  simp only [pars, Nat.zero_add]
  iterate 2 refine rS ?_
  refine AWP.block ?_
  generalize hz1 : loopR (spec_l12Find_b1 a0 a1) (a0.length - 0) 0 () = z1 at hR
  refine AWP.range (spec_l12Find_b1 a0 a1) (fun i1 s1 => ⟨[(0, encL 16 eAid a0), (1, .int .i64 a1), (5, .int .i64 (i1 : Int))], []⟩) (fun i1 s1 => True) (a0.length) 0 () [] hz1 ot wt sm ?_
  clear hz1
  intro i1 s1 hi1 hW1 hz1
  refine rS ?_
  refine AWP.cond rfl (fun hb => ?_) (fun hb => ?_)
  · have hlt1 : i1 < a0.length := ot
    rw [loopR_lt hlt1] at hz1; simp only [spec_l12Find_b1] at hz1
    refine rS ?_
    refine AWP.cond rfl (fun hb => ?_) (fun hb => ?_)
    · simp only [hb, cond_true] at hz1
      refine rS ?_
      refine AWP.ret ?_
      subst hz1
      dsimp only at hR
      subst hR
      exact es
    · simp only [hb, cond_false] at hz1
      refine rS ?_
      exact ⟨_, [], hlt1, wt, hz1, sm⟩
  · obtain rfl : i1 = a0.length := ot
    rw [loopR_ge (Nat.le_refl _)] at hz1; subst hz1; dsimp only at hR
    refine AWP.exit ?_; refine exitTo_here ?_
    refine rS ?_
    refine AWP.ret ?_
    subst hR
    exact es
end N142
def D_spec_l12Find : DF
  | [x0, x1] => some (.int .i64 (spec_l12Find (rdL dAid x0) (rdI x1)), false, [wL 16 eAid dAid x0, wI .i64 x1])
  | _ => none
theorem D_spec_l12Find_ok : OkD Tryz.prog 142 D_spec_l12Find := by unfold D_spec_l12Find; exact dk N142.den
end Go.Ab

namespace Go.Ab
open Go Go.Proofs
theorem find_first (l : List Aid) (n : Int) : (∃ j, j < l.length ∧ (l.getD j default).Number = n ∧ (∀ q, q < j → (l.getD q default).Number ≠ n) ∧ spec_l12Find l n = (j : Int)) ∨ ((∀ q, q < l.length → (l.getD q default).Number ≠ n) ∧ spec_l12Find l n = -1) := by
  unfold spec_l12Find
  rcases loopR_first (b := spec_l12Find_b1 l n) (fun j => (l.getD j default).Number == n) (fun j => (j : Int)) (k := l.length - 0) (i := 0) (s := ()) (fun j u _ _ => rfl) with ⟨j, _, h2, h3, h4, h5⟩ | ⟨h1, h2⟩
  · left
    rw [h5]
    exact ⟨j, by omega, by simpa using h3, fun q hq => by simpa using h4 q (Nat.zero_le _) hq, rfl⟩
  · right
    rw [h2]
    exact ⟨fun q hq => by simpa using h1 q (Nat.zero_le _) (by omega), rfl⟩
theorem spec_l12Find_lt (l : List Aid) (n : Int) : -1 ≤ spec_l12Find l n ∧ spec_l12Find l n < l.length := by
  rcases find_first l n with ⟨j, h1, _, _, h2⟩ | ⟨_, h2⟩ <;> omega
end Go.Ab

namespace Go.Ab
open Go Go.Proofs
def spec_SameSectors_b1 (a0 : (List Sector)) (a1 : (List Sector)) (i1 : Nat) (s1 : Unit) : Except (Bool) (Unit) :=
  (bif (!(((a0.getD i1 default).From) == ((a1.getD i1 default).From) && (((a0.getD i1 default).To) == ((a1.getD i1 default).To) && ((a0.getD i1 default).Color) == ((a1.getD i1 default).Color)))) then .error false else .ok ())
def spec_SameSectors (a0 : (List Sector)) (a1 : (List Sector)) : Bool :=
  (bif ((a0.length : Int) != (a1.length : Int)) then false else (match loopR (spec_SameSectors_b1 a0 a1) (a0.length - 0) 0 () with | .error e => e | .ok s1 => true))
namespace N170
theorem DD : DOk Tryz.prog (Go.Ab.DD []) := DD_nil _
theorem den (a0 : (List Sector)) (a1 : (List Sector))  : Den Tryz.prog 170 [encL 3 eSector a0, encL 3 eSector a1] (.bool (spec_SameSectors a0 a1)) := by
  generalize hR : spec_SameSectors a0 a1 = r
  unfold spec_SameSectors at hR
  refine di Tryz.func170 Tryz.ntmps170 Tryz.results170 ?_
  intro c hL hc hk
  obtain ⟨hL0, hL1, _⟩ := hL
  have hw0 : a0.length < 9223372036854775808 := Nat.lt_succ_of_le (lens_encL hL0).1
  have hw1 : ∀ v ∈ a0, bwSector v := fun v hv => Sector_lens v ((lens_encL hL0).2 v hv)
  have hw2 : a1.length < 9223372036854775808 := Nat.lt_succ_of_le (lens_encL hL1).1
  have hw3 : ∀ v ∈ a1, bwSector v := fun v hv => Sector_lens v ((lens_encL hL1).2 v hv)
  clear hL0 hL1
  simp only [pars, Nat.zero_add]
  iterate 2 refine rS ?_
  refine AWP.cond rfl (fun hb => ?_) (fun hb => ?_)
  · replace hR := ct hR
    refine rS ?_
    refine AWP.ret ?_
    subst hR
    exact es
  · replace hR := cf hR
    refine rS ?_
    refine AWP.block ?_
    generalize hz1 : loopR (spec_SameSectors_b1 a0 a1) (a0.length - 0) 0 () = z1 at hR
    refine AWP.range (spec_SameSectors_b1 a0 a1) (fun i1 s1 => ⟨[(0, encL 3 eSector a0), (1, encL 3 eSector a1), (5, .int .i64 (i1 : Int))], []⟩) (fun i1 s1 => True) (a0.length) 0 () [] hz1 ot wt sm ?_
    clear hz1
    intro i1 s1 hi1 hW1 hz1
    refine rS ?_
    refine AWP.cond rfl (fun hb => ?_) (fun hb => ?_)
    · have hlt1 : i1 < a0.length := ot
      rw [loopR_lt hlt1] at hz1; simp only [spec_SameSectors_b1] at hz1
      refine rD 8 ?_
      refine AWP.cond rfl (fun hb => ?_) (fun hb => ?_)
      · simp only [hb, cond_true] at hz1
        refine rS ?_
        refine AWP.ret ?_
        subst hz1
        dsimp only at hR
        subst hR
        exact es
      · simp only [hb, cond_false] at hz1
        refine rS ?_
        exact ⟨_, [], hlt1, wt, hz1, sm⟩
    · obtain rfl : i1 = a0.length := ot
      rw [loopR_ge (Nat.le_refl _)] at hz1; subst hz1; dsimp only at hR
      refine AWP.exit ?_; refine exitTo_here ?_
      refine rS ?_
      refine AWP.ret ?_
      subst hR
      exact es
end N170
def D_spec_SameSectors : DF
  | [x0, x1] => some (.bool (spec_SameSectors (rdL dSector x0) (rdL dSector x1)), false, [wL 3 eSector dSector x0, wL 3 eSector dSector x1])
  | _ => none
theorem D_spec_SameSectors_ok : OkD Tryz.prog 170 D_spec_SameSectors := by unfold D_spec_SameSectors; exact dk N170.den
end Go.Ab

namespace Go.Ab
open Go Go.Proofs
def spec_l00Same_b1 (a0 : (List Int)) (a1 : (List Int)) (i1 : Nat) (s1 : Unit) : Except (Bool) (Unit) :=
  (bif ((a0.getD i1 default) != (a1.getD i1 default)) then .error false else .ok ())
def spec_l00Same (a0 : (List Int)) (a1 : (List Int)) : Bool :=
  (bif ((a0.length : Int) != (a1.length : Int)) then false else (match loopR (spec_l00Same_b1 a0 a1) (a0.length - 0) 0 () with | .error e => e | .ok s1 => true))
namespace N206
theorem DD : DOk Tryz.prog (Go.Ab.DD []) := DD_nil _
theorem den (a0 : (List Int)) (a1 : (List Int))  : Den Tryz.prog 206 [encL 1 eIi64 a0, encL 1 eIi64 a1] (.bool (spec_l00Same a0 a1)) := by
  generalize hR : spec_l00Same a0 a1 = r
  unfold spec_l00Same at hR
  refine di Tryz.func206 Tryz.ntmps206 Tryz.results206 ?_
  intro c hL hc hk
  obtain ⟨hL0, hL1, _⟩ := hL
  have hw0 : a0.length < 9223372036854775808 := Nat.lt_succ_of_le (lens_encL hL0).1
  have hw1 : a1.length < 9223372036854775808 := Nat.lt_succ_of_le (lens_encL hL1).1
  clear hL0 hL1
  simp only [pars, Nat.zero_add]
  iterate 2 refine rS ?_
  refine AWP.cond rfl (fun hb => ?_) (fun hb => ?_)
  · replace hR := ct hR
    refine rS ?_
    refine AWP.ret ?_
    subst hR
    exact es
  · replace hR := cf hR
    refine rS ?_
    refine AWP.block ?_
    generalize hz1 : loopR (spec_l00Same_b1 a0 a1) (a0.length - 0) 0 () = z1 at hR
    refine AWP.range (spec_l00Same_b1 a0 a1) (fun i1 s1 => ⟨[(0, encL 1 eIi64 a0), (1, encL 1 eIi64 a1), (5, .int .i64 (i1 : Int))], []⟩) (fun i1 s1 => True) (a0.length) 0 () [] hz1 ot wt sm ?_
    clear hz1
    intro i1 s1 hi1 hW1 hz1
    refine rS ?_
    refine AWP.cond rfl (fun hb => ?_) (fun hb => ?_)
    · have hlt1 : i1 < a0.length := ot
      rw [loopR_lt hlt1] at hz1; simp only [spec_l00Same_b1] at hz1
      refine rD 8 ?_
      refine AWP.cond rfl (fun hb => ?_) (fun hb => ?_)
      · simp only [hb, cond_true] at hz1
        refine rS ?_
        refine AWP.ret ?_
        subst hz1
        dsimp only at hR
        subst hR
        exact es
      · simp only [hb, cond_false] at hz1
        refine rS ?_
        exact ⟨_, [], hlt1, wt, hz1, sm⟩
    · obtain rfl : i1 = a0.length := ot
      rw [loopR_ge (Nat.le_refl _)] at hz1; subst hz1; dsimp only at hR
      refine AWP.exit ?_; refine exitTo_here ?_
      refine rS ?_
      refine AWP.ret ?_
      subst hR
      exact es
end N206
def D_spec_l00Same : DF
  | [x0, x1] => some (.bool (spec_l00Same (rdL dIi64 x0) (rdL dIi64 x1)), false, [wL 1 eIi64 dIi64 x0, wL 1 eIi64 dIi64 x1])
  | _ => none
theorem D_spec_l00Same_ok : OkD Tryz.prog 206 D_spec_l00Same := by unfold D_spec_l00Same; exact dk N206.den
end Go.Ab

namespace Go.Ab
open Go Go.Proofs
def spec_l05Same (a0 : Character) (a1 : Character) : Bool :=
  (((((a0.Kind == a1.Kind) && (spec_l00Same a0.Group a1.Group)) && (a0.Letter == a1.Letter)) && (a0.Colors == a1.Colors)) && (a0.Period == a1.Period))
namespace N169
theorem DD : DOk Tryz.prog (Go.Ab.DD [(206, dP D_spec_l00Same)]) := DD_cons D_spec_l00Same_ok.e <| DD_nil _
theorem dn : type_of% (@D_spec_l00Same.eq_1) := by and_intros <;> intros <;> rfl
theorem den (a0 : Character) (a1 : Character)  : Den Tryz.prog 169 [.ep (eCharacter a0), .ep (eCharacter a1)] (.bool (spec_l05Same a0 a1)) := by
  generalize hR : spec_l05Same a0 a1 = r
  unfold spec_l05Same at hR
  refine di Tryz.func169 Tryz.ntmps169 Tryz.results169 ?_
  intro c hL hc hk
  obtain ⟨hL0, hL1, _⟩ := hL
  have hw0 : bwCharacter a0 := Character_lens a0 hL0
  have hw1 : bwCharacter a1 := Character_lens a1 hL1
  clear hL0 hL1
  simp only [pars, Nat.zero_add]
  refine rS ?_
  refine rD 53 ?_
  refine AWP.ret ?_
  subst hR
  exact es
end N169
def D_spec_l05Same : DF
  | [x0, x1] => some (.bool (spec_l05Same (rdP dCharacter x0) (rdP dCharacter x1)), false, [wP eCharacter dCharacter x0, wP eCharacter dCharacter x1])
  | _ => none
theorem D_spec_l05Same_ok : OkD Tryz.prog 169 D_spec_l05Same := by unfold D_spec_l05Same; exact dk N169.den
end Go.Ab

namespace Go.Ab
open Go Go.Proofs
def spec_l12Same (a0 : Aid) (a1 : Aid) : Bool :=
  ((((((((a0.Number == a1.Number) && (a0.Name == a1.Name)) && (a0.At.X == a1.At.X && a0.At.Y == a1.At.Y)) && (a0.Height == a1.Height)) && (a0.Mark.Kind == a1.Mark.Kind && (a0.Mark.Colors == a1.Mark.Colors && (a0.Mark.Shape == a1.Mark.Shape && a0.Mark.Topmark == a1.Mark.Topmark)))) && (spec_l05Same a0.Light a1.Light)) && (spec_SameSectors a0.Sectors a1.Sectors)) && (a0.Intensity == a1.Intensity))
namespace N105
theorem DD : DOk Tryz.prog (Go.Ab.DD [(169, dP D_spec_l05Same), (170, dP D_spec_SameSectors)]) := DD_cons D_spec_l05Same_ok.e <| DD_cons D_spec_SameSectors_ok.e <| DD_nil _
theorem dn : type_of% (And.intro @D_spec_l05Same.eq_1 <| @D_spec_SameSectors.eq_1) := by and_intros <;> intros <;> rfl
set_option maxHeartbeats 4000000 in
set_option maxRecDepth 20000 in
theorem den (a0 : Aid) (a1 : Aid)  : Den Tryz.prog 105 [.ep (eAid a0), .ep (eAid a1)] (.bool (spec_l12Same a0 a1)) := by
  generalize hR : spec_l12Same a0 a1 = r
  unfold spec_l12Same at hR
  refine di Tryz.func105 Tryz.ntmps105 Tryz.results105 ?_
  intro c hL hc hk
  obtain ⟨hL0, hL1, _⟩ := hL
  have hw0 : bwAid a0 := Aid_lens a0 hL0
  have hw1 : bwAid a1 := Aid_lens a1 hL1
  clear hL0 hL1
  simp only [pars, Nat.zero_add]
  refine rS ?_
  refine rD 84 ?_
  refine AWP.ret ?_
  subst hR
  exact es
end N105
def D_spec_l12Same : DF
  | [x0, x1] => some (.bool (spec_l12Same (rdP dAid x0) (rdP dAid x1)), false, [wP eAid dAid x0, wP eAid dAid x1])
  | _ => none
theorem D_spec_l12Same_ok : OkD Tryz.prog 105 D_spec_l12Same := by unfold D_spec_l12Same; exact dk N105.den
end Go.Ab

namespace Go.Ab
open Go Go.Proofs
def spec_l03Day (a0 : Int) : Bool :=
  (spec_l00In a0 0 99999)
namespace N70
theorem DD : DOk Tryz.prog (Go.Ab.DD [(137, dP D_spec_l00In)]) := DD_cons D_spec_l00In_ok.e <| DD_nil _
theorem dn : type_of% (@D_spec_l00In.eq_1) := by and_intros <;> intros <;> rfl
theorem ol : type_of% (@spec_l00In.eq_1) := @spec_l00In.eq_1
theorem den (a0 : Int)  : Den Tryz.prog 70 [.int .i64 a0] (.bool (spec_l03Day a0)) := by
  generalize hR : spec_l03Day a0 = r
  unfold spec_l03Day at hR
  refine di Tryz.func70 Tryz.ntmps70 Tryz.results70 ?_
  intro c hL hc hk
  clear hL
  simp only [pars, Nat.zero_add]
  iterate 2 refine rS ?_
  refine AWP.ret ?_
  subst hR
  exact es
end N70
def D_spec_l03Day : DF
  | [x0] => some (.bool (spec_l03Day (rdI x0)), false, [wI .i64 x0])
  | _ => none
theorem D_spec_l03Day_ok : OkD Tryz.prog 70 D_spec_l03Day := by unfold D_spec_l03Day; exact dk N70.den
end Go.Ab

namespace Go.Ab
open Go Go.Proofs
def spec_l21Cancelled_b1 (a0 : (List Notice)) (a1 : Int) (a2 : Int) (i1 : Nat) (s1 : Unit) : Except (Bool) (Unit) :=
  (bif (((((a0.getD i1 default).Kind) == 4) && (((a0.getD i1 default).Target) == a1)) && decide (((a0.getD i1 default).Day) ≤ a2)) then .error true else .ok ())
def spec_l21Cancelled (a0 : (List Notice)) (a1 : Int) (a2 : Int) : Bool :=
  (match loopR (spec_l21Cancelled_b1 a0 a1 a2) (a0.length - 0) 0 () with | .error e => e | .ok s1 => false)
namespace N138
theorem DD : DOk Tryz.prog (Go.Ab.DD []) := DD_nil _
theorem den (a0 : (List Notice)) (a1 : Int) (a2 : Int)  : Den Tryz.prog 138 [encL 20 eNotice a0, .int .i64 a1, .int .i64 a2] (.bool (spec_l21Cancelled a0 a1 a2)) := by
  generalize hR : spec_l21Cancelled a0 a1 a2 = r
  unfold spec_l21Cancelled at hR
  refine di Tryz.func138 Tryz.ntmps138 Tryz.results138 ?_
  intro c hL hc hk
  obtain ⟨hL0, hL1, hL2, _⟩ := hL
  have hw0 : a0.length < 9223372036854775808 := Nat.lt_succ_of_le (lens_encL hL0).1
  have hw1 : ∀ v ∈ a0, bwNotice v := fun v hv => Notice_lens v ((lens_encL hL0).2 v hv)
  clear hL0 hL1 hL2
  simp only [pars, Nat.zero_add]
  iterate 2 refine rS ?_
  refine AWP.block ?_
  generalize hz1 : loopR (spec_l21Cancelled_b1 a0 a1 a2) (a0.length - 0) 0 () = z1 at hR
  refine AWP.range (spec_l21Cancelled_b1 a0 a1 a2) (fun i1 s1 => ⟨[(0, encL 20 eNotice a0), (1, .int .i64 a1), (2, .int .i64 a2), (7, .int .i64 (i1 : Int))], []⟩) (fun i1 s1 => True) (a0.length) 0 () [] hz1 ot wt sm ?_
  clear hz1
  intro i1 s1 hi1 hW1 hz1
  refine rS ?_
  refine AWP.cond rfl (fun hb => ?_) (fun hb => ?_)
  · have hlt1 : i1 < a0.length := ot
    rw [loopR_lt hlt1] at hz1; simp only [spec_l21Cancelled_b1] at hz1
    refine rS ?_
    refine AWP.cond rfl (fun hb => ?_) (fun hb => ?_)
    · simp only [hb, cond_true] at hz1
      refine rS ?_
      refine AWP.ret ?_
      subst hz1
      dsimp only at hR
      subst hR
      exact es
    · simp only [hb, cond_false] at hz1
      refine rS ?_
      exact ⟨_, [], hlt1, wt, hz1, sm⟩
  · obtain rfl : i1 = a0.length := ot
    rw [loopR_ge (Nat.le_refl _)] at hz1; subst hz1; dsimp only at hR
    refine AWP.exit ?_; refine exitTo_here ?_
    refine rS ?_
    refine AWP.ret ?_
    subst hR
    exact es
end N138
def D_spec_l21Cancelled : DF
  | [x0, x1, x2] => some (.bool (spec_l21Cancelled (rdL dNotice x0) (rdI x1) (rdI x2)), false, [wL 20 eNotice dNotice x0, wI .i64 x1, wI .i64 x2])
  | _ => none
theorem D_spec_l21Cancelled_ok : OkD Tryz.prog 138 D_spec_l21Cancelled := by unfold D_spec_l21Cancelled; exact dk N138.den
end Go.Ab

namespace Go.Ab
open Go Go.Proofs
def spec_l21Cancels_b1 (a0 : (List Notice)) (a1 : Notice) (i1 : Nat) (s1 : Unit) : Except (Bool) (Unit) :=
  (bif (((a0.getD i1 default).Number) == a1.Target) then .error ((((a0.getD i1 default).Kind) != 4) && (!(spec_l21Cancelled a0 a1.Target 99999))) else .ok ())
def spec_l21Cancels (a0 : (List Notice)) (a1 : Notice) : Bool :=
  (bif (a1.Kind != 4) then true else (match loopR (spec_l21Cancels_b1 a0 a1) (a0.length - 0) 0 () with | .error e => e | .ok s1 => false))
namespace N121
theorem DD : DOk Tryz.prog (Go.Ab.DD [(138, dP D_spec_l21Cancelled)]) := DD_cons D_spec_l21Cancelled_ok.e <| DD_nil _
theorem dn : type_of% (@D_spec_l21Cancelled.eq_1) := by and_intros <;> intros <;> rfl
theorem den (a0 : (List Notice)) (a1 : Notice)  : Den Tryz.prog 121 [encL 20 eNotice a0, .ep (eNotice a1)] (.bool (spec_l21Cancels a0 a1)) := by
  generalize hR : spec_l21Cancels a0 a1 = r
  unfold spec_l21Cancels at hR
  refine di Tryz.func121 Tryz.ntmps121 Tryz.results121 ?_
  intro c hL hc hk
  obtain ⟨hL0, hL1, _⟩ := hL
  have hw0 : a0.length < 9223372036854775808 := Nat.lt_succ_of_le (lens_encL hL0).1
  have hw1 : ∀ v ∈ a0, bwNotice v := fun v hv => Notice_lens v ((lens_encL hL0).2 v hv)
  have hw2 : bwNotice a1 := Notice_lens a1 hL1
  clear hL0 hL1
  simp only [pars, Nat.zero_add]
  iterate 2 refine rS ?_
  refine AWP.cond rfl (fun hb => ?_) (fun hb => ?_)
  · replace hR := ct hR
    refine rS ?_
    refine AWP.ret ?_
    subst hR
    exact es
  · replace hR := cf hR
    refine rS ?_
    refine AWP.block ?_
    generalize hz1 : loopR (spec_l21Cancels_b1 a0 a1) (a0.length - 0) 0 () = z1 at hR
    refine AWP.range (spec_l21Cancels_b1 a0 a1) (fun i1 s1 => ⟨[(0, encL 20 eNotice a0), (1, .ep (eNotice a1)), (5, .int .i64 (i1 : Int))], []⟩) (fun i1 s1 => True) (a0.length) 0 () [] hz1 ot wt sm ?_
    clear hz1
    intro i1 s1 hi1 hW1 hz1
    refine rS ?_
    refine AWP.cond rfl (fun hb => ?_) (fun hb => ?_)
    · have hlt1 : i1 < a0.length := ot
      rw [loopR_lt hlt1] at hz1; simp only [spec_l21Cancels_b1] at hz1
      refine rD 9 ?_
      refine AWP.cond rfl (fun hb => ?_) (fun hb => ?_)
      · simp only [hb, cond_true] at hz1
        refine rS ?_
        refine AWP.ret ?_
        subst hz1
        dsimp only at hR
        subst hR
        exact es
      · simp only [hb, cond_false] at hz1
        refine rS ?_
        exact ⟨_, [], hlt1, wt, hz1, sm⟩
    · obtain rfl : i1 = a0.length := ot
      rw [loopR_ge (Nat.le_refl _)] at hz1; subst hz1; dsimp only at hR
      refine AWP.exit ?_; refine exitTo_here ?_
      refine rS ?_
      refine AWP.ret ?_
      subst hR
      exact es
end N121
def D_spec_l21Cancels : DF
  | [x0, x1] => some (.bool (spec_l21Cancels (rdL dNotice x0) (rdP dNotice x1)), false, [wL 20 eNotice dNotice x0, wP eNotice dNotice x1])
  | _ => none
theorem D_spec_l21Cancels_ok : OkD Tryz.prog 121 D_spec_l21Cancels := by unfold D_spec_l21Cancels; exact dk N121.den
end Go.Ab

namespace Go.Ab
open Go Go.Proofs
def spec_l21Force (a0 : (List Notice)) (a1 : Int) (a2 : Int) : Bool :=
  ((decide (((a0.getD ((a1).toNat) default).Day) ≤ a2) && (((a0.getD ((a1).toNat) default).Kind) != 4)) && (!(spec_l21Cancelled a0 ((a0.getD ((a1).toNat) default).Number) a2)))
namespace N71
theorem DD : DOk Tryz.prog (Go.Ab.DD [(138, dP D_spec_l21Cancelled)]) := DD_cons D_spec_l21Cancelled_ok.e <| DD_nil _
theorem dn : type_of% (@D_spec_l21Cancelled.eq_1) := by and_intros <;> intros <;> rfl
theorem den (a0 : (List Notice)) (a1 : Int) (a2 : Int) (hp0 : 0 ≤ a1) (hp1 : a1 < a0.length) : Den Tryz.prog 71 [encL 20 eNotice a0, .int .i64 a1, .int .i64 a2] (.bool (spec_l21Force a0 a1 a2)) := by
  generalize hR : spec_l21Force a0 a1 a2 = r
  unfold spec_l21Force at hR
  refine di Tryz.func71 Tryz.ntmps71 Tryz.results71 ?_
  intro c hL hc hk
  obtain ⟨hL0, hL1, hL2, _⟩ := hL
  have hw0 : a0.length < 9223372036854775808 := Nat.lt_succ_of_le (lens_encL hL0).1
  have hw1 : ∀ v ∈ a0, bwNotice v := fun v hv => Notice_lens v ((lens_encL hL0).2 v hv)
  clear hL0 hL1 hL2
  simp only [pars, Nat.zero_add]
  iterate 2 refine rS ?_
  refine AWP.ret ?_
  subst hR
  exact es
end N71
def D_spec_l21Force : DF
  | [x0, x1, x2] => some (.bool (spec_l21Force (rdL dNotice x0) (rdI x1) (rdI x2)), false, [wL 20 eNotice dNotice x0, wI .i64 x1, wI .i64 x2, 0 ≤ (rdI x1), (rdI x1) < (rdL dNotice x0).length])
  | _ => none
theorem D_spec_l21Force_ok : OkD Tryz.prog 71 D_spec_l21Force := by unfold D_spec_l21Force; exact dk N71.den
end Go.Ab
