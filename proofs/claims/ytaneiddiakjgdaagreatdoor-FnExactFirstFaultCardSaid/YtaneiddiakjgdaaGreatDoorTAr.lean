/- A part of a proof: walks of functions and lemmas of our own. No conditions. -/
import Derived.Test.YtaneiddiakjgdaaGreatDoorTAl
import Derived.Test.YtaneiddiakjgdaaGreatDoorTAn
set_option linter.unusedSectionVars false
set_option linter.unusedVariables false
set_option linter.unusedSimpArgs false
set_option maxHeartbeats 1000000
namespace Go.Ab
open Go Go.Proofs
def spec_l01Small (a0 : Int) : Bool :=
  (decide (97 ≤ a0) && decide (a0 ≤ 122))
namespace N187
theorem DD : DOk Tryz.prog (Go.Ab.DD []) := DD_nil _
theorem den (a0 : Int)  : Den Tryz.prog 187 [.int .u8 a0] (.bool (spec_l01Small a0)) := by
  generalize hR : spec_l01Small a0 = r
  unfold spec_l01Small at hR
  refine di Tryz.func187 Tryz.ntmps187 Tryz.results187 ?_
  intro c hL hc hk
  clear hL
  simp only [pars, Nat.zero_add]
  iterate 2 refine rS ?_
  refine AWP.ret ?_
  subst hR
  exact es
end N187
def D_spec_l01Small : DF
  | [x0] => some (.bool (spec_l01Small (rdI x0)), false, [wI .u8 x0])
  | _ => none
theorem D_spec_l01Small_ok : OkD Tryz.prog 187 D_spec_l01Small := by unfold D_spec_l01Small; exact dk N187.den
end Go.Ab

namespace Go.Ab
open Go Go.Proofs
def spec_l01Digit (a0 : Int) : Bool :=
  (decide (48 ≤ a0) && decide (a0 ≤ 57))
namespace N188
theorem DD : DOk Tryz.prog (Go.Ab.DD []) := DD_nil _
theorem den (a0 : Int)  : Den Tryz.prog 188 [.int .u8 a0] (.bool (spec_l01Digit a0)) := by
  generalize hR : spec_l01Digit a0 = r
  unfold spec_l01Digit at hR
  refine di Tryz.func188 Tryz.ntmps188 Tryz.results188 ?_
  intro c hL hc hk
  clear hL
  simp only [pars, Nat.zero_add]
  iterate 2 refine rS ?_
  refine AWP.ret ?_
  subst hR
  exact es
end N188
def D_spec_l01Digit : DF
  | [x0] => some (.bool (spec_l01Digit (rdI x0)), false, [wI .u8 x0])
  | _ => none
theorem D_spec_l01Digit_ok : OkD Tryz.prog 188 D_spec_l01Digit := by unfold D_spec_l01Digit; exact dk N188.den
end Go.Ab

namespace Go.Ab
open Go Go.Proofs
def spec_l01Name_b1 (a0 : (List UInt8)) (i1 : Nat) (s1 : Unit) : Except (Bool) (Unit) :=
  (bif ((!(spec_l01Small ((a0.getD i1 0).toNat : Int))) && (!(spec_l01Digit ((a0.getD i1 0).toNat : Int)))) then .error false else .ok ())
def spec_l01Name (a0 : (List UInt8)) : Bool :=
  (bif (((a0 == []) || decide (10 < (a0.length : Int))) || (!(spec_l01Small ((a0.getD 0 0).toNat : Int)))) then false else (match loopR (spec_l01Name_b1 a0) (a0.length - 0) 0 () with | .error e => e | .ok s1 => true))
namespace N148
theorem DD : DOk Tryz.prog (Go.Ab.DD [(187, dP D_spec_l01Small), (188, dP D_spec_l01Digit)]) := DD_cons D_spec_l01Small_ok.e <| DD_cons D_spec_l01Digit_ok.e <| DD_nil _
theorem dn : type_of% (And.intro @D_spec_l01Small.eq_1 <| @D_spec_l01Digit.eq_1) := by and_intros <;> intros <;> rfl
theorem den (a0 : (List UInt8))  : Den Tryz.prog 148 [.str a0] (.bool (spec_l01Name a0)) := by
  generalize hR : spec_l01Name a0 = r
  unfold spec_l01Name at hR
  refine di Tryz.func148 Tryz.ntmps148 Tryz.results148 ?_
  intro c hL hc hk
  obtain ⟨hL0, _⟩ := hL
  have hw0 : a0.length < 9223372036854775808 := Nat.lt_succ_of_le hL0
  clear hL0
  simp only [pars, Nat.zero_add]
  iterate 2 refine rS ?_
  refine AWP.cond rfl (fun hb => ?_) (fun hb => ?_)
  · replace hR := ct hR
    refine rS ?_
    refine AWP.ret ?_
    subst hR
    exact es
  · replace hR := cf hR
    refine rS ?_
    refine AWP.block ?_
    generalize hz1 : loopR (spec_l01Name_b1 a0) (a0.length - 0) 0 () = z1 at hR
    refine AWP.range (spec_l01Name_b1 a0) (fun i1 s1 => ⟨[(0, .str a0), (3, .int .i64 (i1 : Int))], []⟩) (fun i1 s1 => True) (a0.length) 0 () [] hz1 ot wt sm ?_
    clear hz1
    intro i1 s1 hi1 hW1 hz1
    refine rS ?_
    refine AWP.cond rfl (fun hb => ?_) (fun hb => ?_)
    · have hlt1 : i1 < a0.length := ot
      rw [loopR_lt hlt1] at hz1; simp only [spec_l01Name_b1] at hz1
      refine rS ?_
      refine AWP.cond rfl (fun hb => ?_) (fun hb => ?_)
      · simp only [hb, cond_true] at hz1
        refine rS ?_
        refine AWP.ret ?_
        subst hz1
        dsimp only at hR
        subst hR
        exact es
      · simp only [hb, cond_false] at hz1
        refine rS ?_
        exact ⟨_, [], hlt1, wt, hz1, sm⟩
    · obtain rfl : i1 = a0.length := ot
      rw [loopR_ge (Nat.le_refl _)] at hz1; subst hz1; dsimp only at hR
      refine AWP.exit ?_; refine exitTo_here ?_
      refine rS ?_
      refine AWP.ret ?_
      subst hR
      exact es
end N148
def D_spec_l01Name : DF
  | [x0] => some (.bool (spec_l01Name (rdS x0)), false, [wS x0])
  | _ => none
theorem D_spec_l01Name_ok : OkD Tryz.prog 148 D_spec_l01Name := by unfold D_spec_l01Name; exact dk N148.den
end Go.Ab

namespace Go.Ab
open Go Go.Proofs
def spec_l00In (a0 : Int) (a1 : Int) (a2 : Int) : Bool :=
  (decide (a1 ≤ a0) && decide (a0 ≤ a2))
namespace N137
theorem DD : DOk Tryz.prog (Go.Ab.DD []) := DD_nil _
theorem den (a0 : Int) (a1 : Int) (a2 : Int)  : Den Tryz.prog 137 [.int .i64 a0, .int .i64 a1, .int .i64 a2] (.bool (spec_l00In a0 a1 a2)) := by
  generalize hR : spec_l00In a0 a1 a2 = r
  unfold spec_l00In at hR
  refine di Tryz.func137 Tryz.ntmps137 Tryz.results137 ?_
  intro c hL hc hk
  clear hL
  simp only [pars, Nat.zero_add]
  iterate 2 refine rS ?_
  refine AWP.ret ?_
  subst hR
  exact es
end N137
def D_spec_l00In : DF
  | [x0, x1, x2] => some (.bool (spec_l00In (rdI x0) (rdI x1) (rdI x2)), false, [wI .i64 x0, wI .i64 x1, wI .i64 x2])
  | _ => none
theorem D_spec_l00In_ok : OkD Tryz.prog 137 D_spec_l00In := by unfold D_spec_l00In; exact dk N137.den
end Go.Ab

namespace Go.Ab
open Go Go.Proofs
def spec_l05Sum_b1 (a0 : (List Int)) (i1 : Nat) (s1 : Int) : Except (Int) (Int) :=
  .ok (IntKind.wrap .i64 (s1 + (a0.getD i1 default)))
def spec_l05Sum (a0 : (List Int)) : Int :=
  (bif ((a0.length : Int) == 0) then 1 else (match loopR (spec_l05Sum_b1 a0) (a0.length - 0) 0 0 with | .error e => e | .ok s1 => s1))
namespace N247
theorem DD : DOk Tryz.prog (Go.Ab.DD []) := DD_nil _
theorem den (a0 : (List Int))  : Den Tryz.prog 247 [encL 1 eIi64 a0] (.int .i64 (spec_l05Sum a0)) := by
  generalize hR : spec_l05Sum a0 = r
  unfold spec_l05Sum at hR
  refine di Tryz.func247 Tryz.ntmps247 Tryz.results247 ?_
  intro c hL hc hk
  obtain ⟨hL0, _⟩ := hL
  have hw0 : a0.length < 9223372036854775808 := Nat.lt_succ_of_le (lens_encL hL0).1
  clear hL0
  simp only [pars, Nat.zero_add]
  iterate 2 refine rS ?_
  refine AWP.cond rfl (fun hb => ?_) (fun hb => ?_)
  · replace hR := ct hR
    refine rS ?_
    refine AWP.ret ?_
    subst hR
    exact es
  · replace hR := cf hR
    iterate 2 refine rS ?_
    refine AWP.block ?_
    generalize hz1 : loopR (spec_l05Sum_b1 a0) (a0.length - 0) 0 0 = z1 at hR
    refine AWP.range (spec_l05Sum_b1 a0) (fun i1 s1 => ⟨[(0, encL 1 eIi64 a0), (3, .int .i64 s1), (4, .int .i64 (i1 : Int))], []⟩) (fun i1 s1 => True) (a0.length) 0 0 [] hz1 ot wt sm ?_
    clear hz1
    intro i1 s1 hi1 hW1 hz1
    refine rS ?_
    refine AWP.cond rfl (fun hb => ?_) (fun hb => ?_)
    · have hlt1 : i1 < a0.length := ot
      rw [loopR_lt hlt1] at hz1; simp only [spec_l05Sum_b1] at hz1
      iterate 2 refine rS ?_
      exact ⟨_, [], hlt1, wt, hz1, sm⟩
    · obtain rfl : i1 = a0.length := ot
      rw [loopR_ge (Nat.le_refl _)] at hz1; subst hz1; dsimp only at hR
      refine AWP.exit ?_; refine exitTo_here ?_
      refine rS ?_
      refine AWP.ret ?_
      subst hR
      exact es
end N247
def D_spec_l05Sum : DF
  | [x0] => some (.int .i64 (spec_l05Sum (rdL dIi64 x0)), false, [wL 1 eIi64 dIi64 x0])
  | _ => none
theorem D_spec_l05Sum_ok : OkD Tryz.prog 247 D_spec_l05Sum := by unfold D_spec_l05Sum; exact dk N247.den
end Go.Ab

namespace Go.Ab
open Go Go.Proofs
def spec_l05Group_b1 (a0 : (List Int)) (i1 : Nat) (s1 : Unit) : Except (Bool) (Unit) :=
  (bif (!(spec_l00In (a0.getD i1 default) 1 9)) then .error false else .ok ())
def spec_l05Group (a0 : (List Int)) : Bool :=
  (match loopR (spec_l05Group_b1 a0) (a0.length - 0) 0 () with | .error e => e | .ok s1 => ((decide ((a0.length : Int) ≤ 4) && (!(((a0.length : Int) == 1) && ((a0.getD 0 default) == 1)))) && decide ((spec_l05Sum a0) ≤ 12)))
namespace N226
theorem DD : DOk Tryz.prog (Go.Ab.DD [(137, dP D_spec_l00In), (247, dP D_spec_l05Sum)]) := DD_cons D_spec_l00In_ok.e <| DD_cons D_spec_l05Sum_ok.e <| DD_nil _
theorem dn : type_of% (And.intro @D_spec_l00In.eq_1 <| @D_spec_l05Sum.eq_1) := by and_intros <;> intros <;> rfl
theorem ol : type_of% (@spec_l00In.eq_1) := @spec_l00In.eq_1
theorem den (a0 : (List Int))  : Den Tryz.prog 226 [encL 1 eIi64 a0] (.bool (spec_l05Group a0)) := by
  generalize hR : spec_l05Group a0 = r
  unfold spec_l05Group at hR
  refine di Tryz.func226 Tryz.ntmps226 Tryz.results226 ?_
  intro c hL hc hk
  obtain ⟨hL0, _⟩ := hL
  have hw0 : a0.length < 9223372036854775808 := Nat.lt_succ_of_le (lens_encL hL0).1
  clear hL0
  simp only [pars, Nat.zero_add]
  iterate 2 refine rS ?_
  refine AWP.block ?_
  generalize hz1 : loopR (spec_l05Group_b1 a0) (a0.length - 0) 0 () = z1 at hR
  refine AWP.range (spec_l05Group_b1 a0) (fun i1 s1 => ⟨[(0, encL 1 eIi64 a0), (3, .int .i64 (i1 : Int))], []⟩) (fun i1 s1 => True) (a0.length) 0 () [] hz1 ot wt sm ?_
  clear hz1
  intro i1 s1 hi1 hW1 hz1
  refine rS ?_
  refine AWP.cond rfl (fun hb => ?_) (fun hb => ?_)
  · have hlt1 : i1 < a0.length := ot
    rw [loopR_lt hlt1] at hz1; simp only [spec_l05Group_b1] at hz1
    refine rS ?_
    refine AWP.cond rfl (fun hb => ?_) (fun hb => ?_)
    · simp only [hb, cond_true] at hz1
      refine rS ?_
      refine AWP.ret ?_
      subst hz1
      dsimp only at hR
      subst hR
      exact es
    · simp only [hb, cond_false] at hz1
      refine rS ?_
      exact ⟨_, [], hlt1, wt, hz1, sm⟩
  · obtain rfl : i1 = a0.length := ot
    rw [loopR_ge (Nat.le_refl _)] at hz1; subst hz1; dsimp only at hR
    refine AWP.exit ?_; refine exitTo_here ?_
    refine rS ?_
    refine AWP.ret ?_
    subst hR
    exact es
end N226
def D_spec_l05Group : DF
  | [x0] => some (.bool (spec_l05Group (rdL dIi64 x0)), false, [wL 1 eIi64 dIi64 x0])
  | _ => none
theorem D_spec_l05Group_ok : OkD Tryz.prog 226 D_spec_l05Group := by unfold D_spec_l05Group; exact dk N226.den
end Go.Ab

namespace Go.Ab
open Go Go.Proofs
def spec_l05Rank (a0 : Int) : Int :=
  (bif (a0 == 87) then 1 else (bif (a0 == 82) then 2 else (bif (a0 == 71) then 3 else (bif (a0 == 89) then 4 else 0))))
namespace N246
theorem DD : DOk Tryz.prog (Go.Ab.DD []) := DD_nil _
theorem den (a0 : Int)  : Den Tryz.prog 246 [.int .u8 a0] (.int .i64 (spec_l05Rank a0)) := by
  generalize hR : spec_l05Rank a0 = r
  unfold spec_l05Rank at hR
  refine di Tryz.func246 Tryz.ntmps246 Tryz.results246 ?_
  intro c hL hc hk
  clear hL
  simp only [pars, Nat.zero_add]
  iterate 3 refine rS ?_
  refine AWP.cond rfl (fun hb => ?_) (fun hb => ?_)
  · replace hR := ct hR
    refine rS ?_
    refine AWP.ret ?_
    subst hR
    exact es
  · replace hR := cf hR
    refine rS ?_
    refine AWP.cond rfl (fun hb => ?_) (fun hb => ?_)
    · replace hR := ct hR
      refine rS ?_
      refine AWP.ret ?_
      subst hR
      exact es
    · replace hR := cf hR
      refine rS ?_
      refine AWP.cond rfl (fun hb => ?_) (fun hb => ?_)
      · replace hR := ct hR
        refine rS ?_
        refine AWP.ret ?_
        subst hR
        exact es
      · replace hR := cf hR
        refine rS ?_
        refine AWP.cond rfl (fun hb => ?_) (fun hb => ?_)
        · replace hR := ct hR
          refine rS ?_
          refine AWP.ret ?_
          subst hR
          exact es
        · replace hR := cf hR
          refine rS ?_
          refine AWP.ret ?_
          subst hR
          exact es
end N246
def D_spec_l05Rank : DF
  | [x0] => some (.int .i64 (spec_l05Rank (rdI x0)), false, [wI .u8 x0])
  | _ => none
theorem D_spec_l05Rank_ok : OkD Tryz.prog 246 D_spec_l05Rank := by unfold D_spec_l05Rank; exact dk N246.den
end Go.Ab

namespace Go.Ab
open Go Go.Proofs
def spec_l05Colors_b1 (a0 : (List UInt8)) (i1 : Nat) (s1 : Unit) : Except (Bool) (Unit) :=
  (bif (((spec_l05Rank ((a0.getD i1 0).toNat : Int)) == 0) || (decide (0 < (i1 : Int)) && decide ((spec_l05Rank ((a0.getD i1 0).toNat : Int)) ≤ (spec_l05Rank ((a0.getD ((IntKind.wrap .i64 ((i1 : Int) - 1)).toNat) 0).toNat : Int))))) then .error false else .ok ())
def spec_l05Colors (a0 : (List UInt8)) : Bool :=
  (match loopR (spec_l05Colors_b1 a0) (a0.length - 0) 0 () with | .error e => e | .ok s1 => (decide (1 ≤ (a0.length : Int)) && decide ((a0.length : Int) ≤ 3)))
namespace N225
theorem DD : DOk Tryz.prog (Go.Ab.DD [(246, dP D_spec_l05Rank)]) := DD_cons D_spec_l05Rank_ok.e <| DD_nil _
theorem dn : type_of% (@D_spec_l05Rank.eq_1) := by and_intros <;> intros <;> rfl
theorem den (a0 : (List UInt8))  : Den Tryz.prog 225 [.str a0] (.bool (spec_l05Colors a0)) := by
  generalize hR : spec_l05Colors a0 = r
  unfold spec_l05Colors at hR
  refine di Tryz.func225 Tryz.ntmps225 Tryz.results225 ?_
  intro c hL hc hk
  obtain ⟨hL0, _⟩ := hL
  have hw0 : a0.length < 9223372036854775808 := Nat.lt_succ_of_le hL0
  clear hL0
  simp only [pars, Nat.zero_add]
  iterate 2 refine rS ?_
  refine AWP.block ?_
  generalize hz1 : loopR (spec_l05Colors_b1 a0) (a0.length - 0) 0 () = z1 at hR
  refine AWP.range (spec_l05Colors_b1 a0) (fun i1 s1 => ⟨[(0, .str a0), (3, .int .i64 (i1 : Int))], []⟩) (fun i1 s1 => True) (a0.length) 0 () [] hz1 ot wt sm ?_
  clear hz1
  intro i1 s1 hi1 hW1 hz1
  refine rS ?_
  refine AWP.cond rfl (fun hb => ?_) (fun hb => ?_)
  · have hlt1 : i1 < a0.length := ot
    rw [loopR_lt hlt1] at hz1; simp only [spec_l05Colors_b1] at hz1
    refine rD 21 ?_
    refine AWP.cond rfl (fun hb => ?_) (fun hb => ?_)
    · simp only [hb, cond_true] at hz1
      refine rS ?_
      refine AWP.ret ?_
      subst hz1
      dsimp only at hR
      subst hR
      exact es
    · simp only [hb, cond_false] at hz1
      refine rS ?_
      exact ⟨_, [], hlt1, wt, hz1, sm⟩
  · obtain rfl : i1 = a0.length := ot
    rw [loopR_ge (Nat.le_refl _)] at hz1; subst hz1; dsimp only at hR
    refine AWP.exit ?_; refine exitTo_here ?_
    refine rS ?_
    refine AWP.ret ?_
    subst hR
    exact es
end N225
def D_spec_l05Colors : DF
  | [x0] => some (.bool (spec_l05Colors (rdS x0)), false, [wS x0])
  | _ => none
theorem D_spec_l05Colors_ok : OkD Tryz.prog 225 D_spec_l05Colors := by unfold D_spec_l05Colors; exact dk N225.den
end Go.Ab

namespace Go.Ab
open Go Go.Proofs
def spec_l05Kind (a0 : Int) : Bool :=
  (spec_l00In a0 1 8)
namespace N224
theorem DD : DOk Tryz.prog (Go.Ab.DD [(137, dP D_spec_l00In)]) := DD_cons D_spec_l00In_ok.e <| DD_nil _
theorem dn : type_of% (@D_spec_l00In.eq_1) := by and_intros <;> intros <;> rfl
theorem ol : type_of% (@spec_l00In.eq_1) := @spec_l00In.eq_1
theorem den (a0 : Int)  : Den Tryz.prog 224 [.int .i64 a0] (.bool (spec_l05Kind a0)) := by
  generalize hR : spec_l05Kind a0 = r
  unfold spec_l05Kind at hR
  refine di Tryz.func224 Tryz.ntmps224 Tryz.results224 ?_
  intro c hL hc hk
  clear hL
  simp only [pars, Nat.zero_add]
  iterate 2 refine rS ?_
  refine AWP.ret ?_
  subst hR
  exact es
end N224
def D_spec_l05Kind : DF
  | [x0] => some (.bool (spec_l05Kind (rdI x0)), false, [wI .i64 x0])
  | _ => none
theorem D_spec_l05Kind_ok : OkD Tryz.prog 224 D_spec_l05Kind := by unfold D_spec_l05Kind; exact dk N224.den
end Go.Ab

namespace Go.Ab
open Go Go.Proofs
def spec_l05Shape (a0 : Character) : Bool :=
  (bif ((!(spec_l05Kind a0.Kind)) || (!(spec_l05Colors a0.Colors))) then false else (bif (a0.Kind == 1) then (((a0.Group.length : Int) == 0) && (a0.Letter == [])) else (bif (a0.Kind == 3) then (((a0.Group.length : Int) == 0) && (a0.Letter == [])) else (bif (a0.Kind == 6) then (bif (a0.Letter == [76]) then (((a0.Group.length : Int) == 1) && ((a0.Group.getD 0 default) == 6)) else (((a0.Letter == []) && decide ((a0.Group.length : Int) ≤ 1)) && (spec_l05Group a0.Group))) else (bif (a0.Kind == 7) then (bif (a0.Letter == [76]) then (((a0.Group.length : Int) == 1) && ((a0.Group.getD 0 default) == 6)) else (((a0.Letter == []) && decide ((a0.Group.length : Int) ≤ 1)) && (spec_l05Group a0.Group))) else (bif (a0.Kind == 8) then (((((a0.Group.length : Int) == 0) && ((a0.Letter.length : Int) == 1)) && decide (65 ≤ ((a0.Letter.getD 0 0).toNat : Int))) && decide (((a0.Letter.getD 0 0).toNat : Int) ≤ 90)) else ((a0.Letter == []) && (spec_l05Group a0.Group))))))))
namespace N190
theorem DD : DOk Tryz.prog (Go.Ab.DD [(224, dP D_spec_l05Kind), (225, dP D_spec_l05Colors), (226, dP D_spec_l05Group)]) := DD_cons D_spec_l05Kind_ok.e <| DD_cons D_spec_l05Colors_ok.e <| DD_cons D_spec_l05Group_ok.e <| DD_nil _
theorem dn : type_of% (And.intro @D_spec_l05Kind.eq_1 <| And.intro @D_spec_l05Colors.eq_1 <| @D_spec_l05Group.eq_1) := by and_intros <;> intros <;> rfl
theorem den (a0 : Character)  : Den Tryz.prog 190 [.ep (eCharacter a0)] (.bool (spec_l05Shape a0)) := by
  generalize hR : spec_l05Shape a0 = r
  unfold spec_l05Shape at hR
  refine di Tryz.func190 Tryz.ntmps190 Tryz.results190 ?_
  intro c hL hc hk
  obtain ⟨hL0, _⟩ := hL
  have hw0 : bwCharacter a0 := Character_lens a0 hL0
  clear hL0
  simp only [pars, Nat.zero_add]
  iterate 2 refine rS ?_
  refine AWP.cond rfl (fun hb => ?_) (fun hb => ?_)
  · replace hR := ct hR
    refine rS ?_
    refine AWP.ret ?_
    subst hR
    exact es
  · replace hR := cf hR
    iterate 2 refine rS ?_
    refine AWP.cond rfl (fun hb => ?_) (fun hb => ?_)
    · replace hR := ct hR
      refine AWP.skip ?_
      refine AWP.cond rfl (fun hb => ?_) (fun hb => ?_)
      · refine rS ?_
        refine AWP.ret ?_
        subst hR
        exact es
      · exfalso; simp_all
    · replace hR := cf hR
      refine rS ?_
      refine AWP.cond rfl (fun hb => ?_) (fun hb => ?_)
      · replace hR := ct hR
        refine rS ?_
        refine AWP.ret ?_
        subst hR
        exact es
      · replace hR := cf hR
        refine rS ?_
        refine AWP.cond rfl (fun hb => ?_) (fun hb => ?_)
        · replace hR := ct hR
          refine AWP.skip ?_
          refine AWP.cond rfl (fun hb => ?_) (fun hb => ?_)
          · refine rS ?_
            refine AWP.cond rfl (fun hb => ?_) (fun hb => ?_)
            · replace hR := ct hR
              refine rS ?_
              refine AWP.ret ?_
              subst hR
              exact es
            · replace hR := cf hR
              refine rS ?_
              refine AWP.ret ?_
              subst hR
              exact es
          · exfalso; simp_all
        · replace hR := cf hR
          refine rS ?_
          refine AWP.cond rfl (fun hb => ?_) (fun hb => ?_)
          · replace hR := ct hR
            refine rS ?_
            refine AWP.cond rfl (fun hb => ?_) (fun hb => ?_)
            · replace hR := ct hR
              refine rS ?_
              refine AWP.ret ?_
              subst hR
              exact es
            · replace hR := cf hR
              refine rS ?_
              refine AWP.ret ?_
              subst hR
              exact es
          · replace hR := cf hR
            refine rS ?_
            refine AWP.cond rfl (fun hb => ?_) (fun hb => ?_)
            · replace hR := ct hR
              refine rS ?_
              refine AWP.ret ?_
              subst hR
              exact es
            · replace hR := cf hR
              refine rS ?_
              refine AWP.ret ?_
              subst hR
              exact es
end N190
def D_spec_l05Shape : DF
  | [x0] => some (.bool (spec_l05Shape (rdP dCharacter x0)), false, [wP eCharacter dCharacter x0])
  | _ => none
theorem D_spec_l05Shape_ok : OkD Tryz.prog 190 D_spec_l05Shape := by unfold D_spec_l05Shape; exact dk N190.den
end Go.Ab

namespace Go.Ab
open Go Go.Proofs
def spec_l05Morse_b1 (a0 : Int) (i1 : Nat) (s1 : List Int) : Except ((List Int)) (List Int) :=
  (bif ((((([[46, 45], [45, 46, 46, 46], [45, 46, 45, 46], [45, 46, 46], [46], [46, 46, 45, 46], [45, 45, 46], [46, 46, 46, 46], [46, 46], [46, 45, 45, 45], [45, 46, 45], [46, 45, 46, 46], [45, 45], [45, 46], [45, 45, 45], [46, 45, 45, 46], [45, 45, 46, 45], [46, 45, 46], [46, 46, 46], [45], [46, 46, 45], [46, 46, 46, 45], [46, 45, 45], [45, 46, 46, 45], [45, 46, 45, 45], [45, 45, 46, 46]] : List (List UInt8)).getD ((IntKind.wrap .u8 (a0 - 65)).toNat) default).getD i1 0).toNat : Int) == 46) then .ok (s1 ++ ([5] : List Int)) else .ok (s1 ++ ([15] : List Int)))
def spec_l05Morse (a0 : Int) : (List Int) :=
  (match loopR (spec_l05Morse_b1 a0) (((([[46, 45], [45, 46, 46, 46], [45, 46, 45, 46], [45, 46, 46], [46], [46, 46, 45, 46], [45, 45, 46], [46, 46, 46, 46], [46, 46], [46, 45, 45, 45], [45, 46, 45], [46, 45, 46, 46], [45, 45], [45, 46], [45, 45, 45], [46, 45, 45, 46], [45, 45, 46, 45], [46, 45, 46], [46, 46, 46], [45], [46, 46, 45], [46, 46, 46, 45], [46, 45, 45], [45, 46, 46, 45], [45, 46, 45, 45], [45, 45, 46, 46]] : List (List UInt8)).getD ((IntKind.wrap .u8 (a0 - 65)).toNat) default).length) - 0) 0 ([] : List Int) with | .error e => e | .ok s1 => s1)
namespace N248
theorem DD : DOk Tryz.prog (Go.Ab.DD []) := DD_nil _
theorem lx {p : Prop} (h : p := by (exact lxx); first | done | fail) : p := h
theorem den (a0 : Int) (hp0 : 65 ≤ a0) (hp1 : a0 ≤ 90) : Den Tryz.prog 248 [.int .u8 a0] (ownL 2 1 eIi64 (spec_l05Morse a0)) := by
  generalize hR : spec_l05Morse a0 = r
  unfold spec_l05Morse at hR
  refine di Tryz.func248 Tryz.ntmps248 Tryz.results248 ?_
  intro c hL hc hk
  clear hL
  simp only [pars, Nat.zero_add]
  have hs9 := code_len (IntKind.wrap .u8 (a0 - 65)).toNat
  have hw9 : IntKind.wrap .u8 (a0 - 65) = a0 - 65 := u8_wrap _ (by omega) (by omega)
  iterate 5 refine rS ?_
  refine AWP.block ?_
  generalize hz1 : loopR (spec_l05Morse_b1 a0) (((([[46, 45], [45, 46, 46, 46], [45, 46, 45, 46], [45, 46, 46], [46], [46, 46, 45, 46], [45, 45, 46], [46, 46, 46, 46], [46, 46], [46, 45, 45, 45], [45, 46, 45], [46, 45, 46, 46], [45, 45], [45, 46], [45, 45, 45], [46, 45, 45, 46], [45, 45, 46, 45], [46, 45, 46], [46, 46, 46], [45], [46, 46, 45], [46, 46, 46, 45], [46, 45, 45], [45, 46, 46, 45], [45, 46, 45, 45], [45, 45, 46, 46]] : List (List UInt8)).getD ((IntKind.wrap .u8 (a0 - 65)).toNat) default).length) - 0) 0 ([] : List Int) = z1 at hR
  refine AWP.range (spec_l05Morse_b1 a0) (fun i1 s1 => ⟨[(4, .str (([[46, 45], [45, 46, 46, 46], [45, 46, 45, 46], [45, 46, 46], [46], [46, 46, 45, 46], [45, 45, 46], [46, 46, 46, 46], [46, 46], [46, 45, 45, 45], [45, 46, 45], [46, 45, 46, 46], [45, 45], [45, 46], [45, 45, 45], [46, 45, 45, 46], [45, 45, 46, 45], [46, 45, 46], [46, 46, 46], [45], [46, 46, 45], [46, 46, 46, 45], [46, 45, 45], [45, 46, 46, 45], [45, 46, 45, 45], [45, 45, 46, 46]] : List (List UInt8)).getD ((IntKind.wrap .u8 (a0 - 65)).toNat) default)), (5, .ref 0 1 0 s1.length), (6, .int .i64 (i1 : Int))], [.arr 2 1 s1.length (fun j => eIi64 (s1.getD j default))]⟩) (fun i1 s1 => s1.length ≤ ([] : List Int).length + 1 * i1 ∧ s1.length ≤ i1) (((([[46, 45], [45, 46, 46, 46], [45, 46, 45, 46], [45, 46, 46], [46], [46, 46, 45, 46], [45, 45, 46], [46, 46, 46, 46], [46, 46], [46, 45, 45, 45], [45, 46, 45], [46, 45, 46, 46], [45, 45], [45, 46], [45, 45, 45], [46, 45, 45, 46], [45, 45, 46, 45], [46, 45, 46], [46, 46, 46], [45], [46, 46, 45], [46, 46, 46, 45], [46, 45, 45], [45, 46, 46, 45], [45, 46, 45, 45], [45, 45, 46, 46]] : List (List UInt8)).getD ((IntKind.wrap .u8 (a0 - 65)).toNat) default).length)) 0 ([] : List Int) [1] hz1 ot wt sm ?_
  clear hz1
  intro i1 s1 hi1 hW1 hz1
  refine rS ?_
  refine AWP.cond rfl (fun hb => ?_) (fun hb => ?_)
  · have hlt1 : i1 < ((([[46, 45], [45, 46, 46, 46], [45, 46, 45, 46], [45, 46, 46], [46], [46, 46, 45, 46], [45, 45, 46], [46, 46, 46, 46], [46, 46], [46, 45, 45, 45], [45, 46, 45], [46, 45, 46, 46], [45, 45], [45, 46], [45, 45, 45], [46, 45, 45, 46], [45, 45, 46, 45], [46, 45, 46], [46, 46, 46], [45], [46, 46, 45], [46, 46, 46, 45], [46, 45, 45], [45, 46, 46, 45], [45, 46, 45, 45], [45, 45, 46, 46]] : List (List UInt8)).getD ((IntKind.wrap .u8 (a0 - 65)).toNat) default).length) := ot
    rw [loopR_lt hlt1] at hz1; simp only [spec_l05Morse_b1] at hz1
    refine rS ?_
    refine AWP.cond rfl (fun hb => ?_) (fun hb => ?_)
    · simp only [hb, cond_true] at hz1
      iterate 2 refine rS ?_
      exact ⟨_, [2], hlt1, wt, hz1, sm⟩
    · simp only [hb, cond_false] at hz1
      iterate 2 refine rS ?_
      exact ⟨_, [2], hlt1, wt, hz1, sm⟩
  · obtain rfl : i1 = ((([[46, 45], [45, 46, 46, 46], [45, 46, 45, 46], [45, 46, 46], [46], [46, 46, 45, 46], [45, 45, 46], [46, 46, 46, 46], [46, 46], [46, 45, 45, 45], [45, 46, 45], [46, 45, 46, 46], [45, 45], [45, 46], [45, 45, 45], [46, 45, 45, 46], [45, 45, 46, 45], [46, 45, 46], [46, 46, 46], [45], [46, 46, 45], [46, 46, 46, 45], [46, 45, 45], [45, 46, 46, 45], [45, 46, 45, 45], [45, 45, 46, 46]] : List (List UInt8)).getD ((IntKind.wrap .u8 (a0 - 65)).toNat) default).length) := ot
    rw [loopR_ge (Nat.le_refl _)] at hz1; subst hz1; dsimp only at hR
    refine AWP.exit ?_; refine exitTo_here ?_
    refine rS ?_
    refine AWP.ret ?_
    subst hR
    exact es
end N248
def D_spec_l05Morse : DF
  | [x0] => some (ownL 2 1 eIi64 (spec_l05Morse (rdI x0)), false, [wI .u8 x0, 65 ≤ (rdI x0), (rdI x0) ≤ 90])
  | _ => none
def Dz_spec_l05Morse : DF
  | [x0] => some (ownL 2 1 eIi64 (spec_l05Morse (rdI x0)), true, [wI .u8 x0, 65 ≤ (rdI x0), (rdI x0) ≤ 90])
  | _ => none
theorem D_spec_l05Morse_ok : OkD Tryz.prog 248 D_spec_l05Morse := by unfold D_spec_l05Morse; exact dk N248.den
theorem Dz_spec_l05Morse_ok : OkD Tryz.prog 248 Dz_spec_l05Morse := by unfold Dz_spec_l05Morse; exact dk N248.den
end Go.Ab

namespace Go.Ab
open Go Go.Proofs
theorem l05Morse_eq (a : Int) : spec_l05Morse a = (codesL.getD (IntKind.wrap .u8 (a - 65)).toNat default).map (fun c => if c = 46 then (5 : Int) else 15) := by
  have h := loopR_app (spec_l05Morse_b1 a) (fun j => [if ((codesL.getD (IntKind.wrap .u8 (a - 65)).toNat default).getD j 0) = 46 then (5 : Int) else 15]) (codesL.getD (IntKind.wrap .u8 (a - 65)).toNat default).length 0 [] (fun j s _ _ => by
    show (bif ((((codesL.getD (IntKind.wrap .u8 (a - 65)).toNat default).getD j 0).toNat : Int) == 46) then (.ok (s ++ [5]) : Except (List Int) (List Int)) else .ok (s ++ [15])) = _
    generalize (codesL.getD (IntKind.wrap .u8 (a - 65)).toNat default).getD j 0 = c
    by_cases hc : c = 46
    · subst hc; rfl
    · have : ((c.toNat : Int) == 46) = false := by
        rw [beq_eq_false_iff_ne]
        intro h
        exact hc (UInt8.toNat_inj.1 (by show c.toNat = 46; omega))
      rw [this, if_neg hc]; rfl)
  have e : spec_l05Morse a = (match loopR (spec_l05Morse_b1 a) (codesL.getD (IntKind.wrap .u8 (a - 65)).toNat default).length 0 ([] : List Int) with | .error e => e | .ok s1 => s1) := rfl
  rw [e, h]
  simp only [List.nil_append]
  exact flat_list _ 0 (fun c => if c = 46 then (5 : Int) else 15)
theorem morse_len (a : Int) : (spec_l05Morse a).length ≤ 4 := by
  rw [l05Morse_eq, List.length_map]
  exact codeL_len _
end Go.Ab

namespace Go.Ab
open Go Go.Proofs
def spec_l05Steady (a0 : Character) : Bool :=
  ((a0.Kind == 1) || (((a0.Kind == 6) || (a0.Kind == 7)) && ((a0.Group.length : Int) == 0)))
namespace N191
theorem DD : DOk Tryz.prog (Go.Ab.DD []) := DD_nil _
theorem den (a0 : Character)  : Den Tryz.prog 191 [.ep (eCharacter a0)] (.bool (spec_l05Steady a0)) := by
  generalize hR : spec_l05Steady a0 = r
  unfold spec_l05Steady at hR
  refine di Tryz.func191 Tryz.ntmps191 Tryz.results191 ?_
  intro c hL hc hk
  obtain ⟨hL0, _⟩ := hL
  have hw0 : bwCharacter a0 := Character_lens a0 hL0
  clear hL0
  simp only [pars, Nat.zero_add]
  iterate 2 refine rS ?_
  refine AWP.ret ?_
  subst hR
  exact es
end N191
def D_spec_l05Steady : DF
  | [x0] => some (.bool (spec_l05Steady (rdP dCharacter x0)), false, [wP eCharacter dCharacter x0])
  | _ => none
theorem D_spec_l05Steady_ok : OkD Tryz.prog 191 D_spec_l05Steady := by unfold D_spec_l05Steady; exact dk N191.den
end Go.Ab

namespace Go.Ab
open Go Go.Proofs
def spec_l05Total_b1 (a0 : (List Int)) (i1 : Nat) (s1 : Int) : Except (Int) (Int) :=
  .ok (IntKind.wrap .i64 (s1 + (a0.getD i1 default)))
def spec_l05Total (a0 : (List Int)) : Int :=
  (match loopR (spec_l05Total_b1 a0) (a0.length - 0) 0 0 with | .error e => e | .ok s1 => s1)
namespace N227
theorem DD : DOk Tryz.prog (Go.Ab.DD []) := DD_nil _
theorem den (a0 : (List Int))  : Den Tryz.prog 227 [encL 1 eIi64 a0] (.int .i64 (spec_l05Total a0)) := by
  generalize hR : spec_l05Total a0 = r
  unfold spec_l05Total at hR
  refine di Tryz.func227 Tryz.ntmps227 Tryz.results227 ?_
  intro c hL hc hk
  obtain ⟨hL0, _⟩ := hL
  have hw0 : a0.length < 9223372036854775808 := Nat.lt_succ_of_le (lens_encL hL0).1
  clear hL0
  simp only [pars, Nat.zero_add]
  iterate 3 refine rS ?_
  refine AWP.block ?_
  generalize hz1 : loopR (spec_l05Total_b1 a0) (a0.length - 0) 0 0 = z1 at hR
  refine AWP.range (spec_l05Total_b1 a0) (fun i1 s1 => ⟨[(0, encL 1 eIi64 a0), (3, .int .i64 s1), (4, .int .i64 (i1 : Int))], []⟩) (fun i1 s1 => True) (a0.length) 0 0 [] hz1 ot wt sm ?_
  clear hz1
  intro i1 s1 hi1 hW1 hz1
  refine rS ?_
  refine AWP.cond rfl (fun hb => ?_) (fun hb => ?_)
  · have hlt1 : i1 < a0.length := ot
    rw [loopR_lt hlt1] at hz1; simp only [spec_l05Total_b1] at hz1
    iterate 2 refine rS ?_
    exact ⟨_, [], hlt1, wt, hz1, sm⟩
  · obtain rfl : i1 = a0.length := ot
    rw [loopR_ge (Nat.le_refl _)] at hz1; subst hz1; dsimp only at hR
    refine AWP.exit ?_; refine exitTo_here ?_
    refine rS ?_
    refine AWP.ret ?_
    subst hR
    exact es
end N227
def D_spec_l05Total : DF
  | [x0] => some (.int .i64 (spec_l05Total (rdL dIi64 x0)), false, [wL 1 eIi64 dIi64 x0])
  | _ => none
theorem D_spec_l05Total_ok : OkD Tryz.prog 227 D_spec_l05Total := by unfold D_spec_l05Total; exact dk N227.den
end Go.Ab

namespace Go.Ab
open Go Go.Proofs
def spec_l05Gap (a0 : Int) : Int :=
  (bif (a0 == 2) then 10 else (bif (a0 == 4) then 15 else (bif (a0 == 5) then 20 else (bif (a0 == 7) then 3 else 5))))
namespace N249
theorem DD : DOk Tryz.prog (Go.Ab.DD []) := DD_nil _
theorem den (a0 : Int)  : Den Tryz.prog 249 [.int .i64 a0] (.int .i64 (spec_l05Gap a0)) := by
  generalize hR : spec_l05Gap a0 = r
  unfold spec_l05Gap at hR
  refine di Tryz.func249 Tryz.ntmps249 Tryz.results249 ?_
  intro c hL hc hk
  clear hL
  simp only [pars, Nat.zero_add]
  iterate 3 refine rS ?_
  refine AWP.cond rfl (fun hb => ?_) (fun hb => ?_)
  · replace hR := ct hR
    refine rS ?_
    refine AWP.ret ?_
    subst hR
    exact es
  · replace hR := cf hR
    refine rS ?_
    refine AWP.cond rfl (fun hb => ?_) (fun hb => ?_)
    · replace hR := ct hR
      refine rS ?_
      refine AWP.ret ?_
      subst hR
      exact es
    · replace hR := cf hR
      refine rS ?_
      refine AWP.cond rfl (fun hb => ?_) (fun hb => ?_)
      · replace hR := ct hR
        refine rS ?_
        refine AWP.ret ?_
        subst hR
        exact es
      · replace hR := cf hR
        refine rS ?_
        refine AWP.cond rfl (fun hb => ?_) (fun hb => ?_)
        · replace hR := ct hR
          refine rS ?_
          refine AWP.ret ?_
          subst hR
          exact es
        · replace hR := cf hR
          refine rS ?_
          refine AWP.ret ?_
          subst hR
          exact es
end N249
def D_spec_l05Gap : DF
  | [x0] => some (.int .i64 (spec_l05Gap (rdI x0)), false, [wI .i64 x0])
  | _ => none
theorem D_spec_l05Gap_ok : OkD Tryz.prog 249 D_spec_l05Gap := by unfold D_spec_l05Gap; exact dk N249.den
end Go.Ab

namespace Go.Ab
open Go Go.Proofs
def spec_l05Flash (a0 : Int) : Int :=
  (bif (a0 == 2) then 10 else (bif (a0 == 5) then 20 else (bif (a0 == 7) then 2 else 5)))
namespace N250
theorem DD : DOk Tryz.prog (Go.Ab.DD []) := DD_nil _
theorem den (a0 : Int)  : Den Tryz.prog 250 [.int .i64 a0] (.int .i64 (spec_l05Flash a0)) := by
  generalize hR : spec_l05Flash a0 = r
  unfold spec_l05Flash at hR
  refine di Tryz.func250 Tryz.ntmps250 Tryz.results250 ?_
  intro c hL hc hk
  clear hL
  simp only [pars, Nat.zero_add]
  iterate 3 refine rS ?_
  refine AWP.cond rfl (fun hb => ?_) (fun hb => ?_)
  · replace hR := ct hR
    refine rS ?_
    refine AWP.ret ?_
    subst hR
    exact es
  · replace hR := cf hR
    refine rS ?_
    refine AWP.cond rfl (fun hb => ?_) (fun hb => ?_)
    · replace hR := ct hR
      refine rS ?_
      refine AWP.ret ?_
      subst hR
      exact es
    · replace hR := cf hR
      refine rS ?_
      refine AWP.cond rfl (fun hb => ?_) (fun hb => ?_)
      · replace hR := ct hR
        refine rS ?_
        refine AWP.ret ?_
        subst hR
        exact es
      · replace hR := cf hR
        refine rS ?_
        refine AWP.ret ?_
        subst hR
        exact es
end N250
def D_spec_l05Flash : DF
  | [x0] => some (.int .i64 (spec_l05Flash (rdI x0)), false, [wI .i64 x0])
  | _ => none
theorem D_spec_l05Flash_ok : OkD Tryz.prog 250 D_spec_l05Flash := by unfold D_spec_l05Flash; exact dk N250.den
end Go.Ab

namespace Go.Ab
open Go Go.Proofs
def spec_l05Times_b1 (a0 : Character) (i1 : Nat) (s1 : List Int) : Except ((List Int)) (List Int) :=
  (bif decide (0 < (i1 : Int)) then .ok ((s1 ++ ([5] : List Int)) ++ ([((spec_l05Morse ((a0.Letter.getD 0 0).toNat : Int)).getD i1 default)] : List Int)) else .ok (s1 ++ ([((spec_l05Morse ((a0.Letter.getD 0 0).toNat : Int)).getD i1 default)] : List Int)))
def spec_l05Times_b3 (a0 : Character) (i2 : Nat) (s2 : List Int) (i3 : Nat) (s3 : List Int) : Except ((List Int)) (List Int) :=
  (bif decide (0 < (i3 : Int)) then .ok ((s3 ++ ([(spec_l05Gap a0.Kind)] : List Int)) ++ ([(spec_l05Flash a0.Kind)] : List Int)) else (bif decide (0 < (i2 : Int)) then .ok ((s3 ++ ([IntKind.wrap .i64 ((spec_l05Gap a0.Kind) + 20)] : List Int)) ++ ([(spec_l05Flash a0.Kind)] : List Int)) else .ok (s3 ++ ([(spec_l05Flash a0.Kind)] : List Int))))
def spec_l05Times_b2 (a0 : Character) (i2 : Nat) (s2 : List Int) : Except ((List Int)) (List Int) :=
  (match loopR (spec_l05Times_b3 a0 i2 s2) (((([1] : List Int).getD i2 default)).toNat - 0) 0 s2 with | .error e => .error e | .ok s3 => .ok s3)
def spec_l05Times_b5 (a0 : Character) (i4 : Nat) (s4 : List Int) (i5 : Nat) (s5 : List Int) : Except ((List Int)) (List Int) :=
  (bif decide (0 < (i5 : Int)) then .ok ((s5 ++ ([(spec_l05Gap a0.Kind)] : List Int)) ++ ([(spec_l05Flash a0.Kind)] : List Int)) else (bif decide (0 < (i4 : Int)) then .ok ((s5 ++ ([IntKind.wrap .i64 ((spec_l05Gap a0.Kind) + 20)] : List Int)) ++ ([(spec_l05Flash a0.Kind)] : List Int)) else .ok (s5 ++ ([(spec_l05Flash a0.Kind)] : List Int))))
def spec_l05Times_b4 (a0 : Character) (i4 : Nat) (s4 : List Int) : Except ((List Int)) (List Int) :=
  (match loopR (spec_l05Times_b5 a0 i4 s4) (((a0.Group.getD i4 default)).toNat - 0) 0 s4 with | .error e => .error e | .ok s5 => .ok s5)
def spec_l05Times (a0 : Character) : (List Int) :=
  (bif (a0.Kind == 8) then (match loopR (spec_l05Times_b1 a0) (((spec_l05Morse ((a0.Letter.getD 0 0).toNat : Int)).length) - 0) 0 ([] : List Int) with | .error e => e | .ok s1 => s1) else (bif ((a0.Group.length : Int) == 0) then (match loopR (spec_l05Times_b2 a0) (1 - 0) 0 ([] : List Int) with | .error e => e | .ok s2 => (bif (a0.Letter == [76]) then s2 ++ ([(spec_l05Gap a0.Kind), 20] : List Int) else s2)) else (match loopR (spec_l05Times_b4 a0) (a0.Group.length - 0) 0 ([] : List Int) with | .error e => e | .ok s4 => (bif (a0.Letter == [76]) then s4 ++ ([(spec_l05Gap a0.Kind), 20] : List Int) else s4))))
namespace N228
theorem DD : DOk Tryz.prog (Go.Ab.DD [(248, dP D_spec_l05Morse), (249, dP D_spec_l05Gap), (250, dP D_spec_l05Flash)]) := DD_cons D_spec_l05Morse_ok.e <| DD_cons D_spec_l05Gap_ok.e <| DD_cons D_spec_l05Flash_ok.e <| DD_nil _
theorem dn : type_of% (And.intro @D_spec_l05Morse.eq_1 <| And.intro @D_spec_l05Gap.eq_1 <| @D_spec_l05Flash.eq_1) := by and_intros <;> intros <;> rfl
theorem o2 {p : Prop} (h : p := by (first | (and_intros <;> first | decide | omega | (simp; (first | done | fail)) | (rw [IntKind.wrap_i64]; have := hg9 i4; omega) | (rw [IntKind.wrap_i64]; have := hg1 i2; omega) | (rw [IntKind.wrap_i64]; omega) | (intro i hi; exact app1_get _ _ i hi) | (intro i hi; exact app11_get _ _ _ i hi))); first | done | fail) : p := h
theorem o3 {p : Prop} (h : p := by (first | (refine ⟨⟨Nat.le_refl _, fun i hi => app2_pure _ _ _ i hi⟩, .inl fun i hi => by rw [app2_get _ _ _ i hi]; simp [NoBorL, NoBor], by simp, fun i hi => by rw [app2_get _ _ _ i hi]; exact simOL_refl _⟩)); first | done | fail) : p := h
theorem lx {p : Prop} (h : p := by (exact lxx); first | done | fail) : p := h
set_option maxHeartbeats 1000000 in
set_option maxRecDepth 20000 in
theorem den (a0 : Character) (hb0 : bdCharacter a0) (hp0 : a0.Group.length ≤ 4) (hp1 : ∀ v ∈ a0.Group, v ≤ 9) (hp2 : a0.Kind = 8 → a0.Letter.length = 1 ∧ 65 ≤ (a0.Letter.getD 0 0).toNat ∧ (a0.Letter.getD 0 0).toNat ≤ 90) : Den Tryz.prog 228 [.ep (eCharacter a0)] (ownL 2 1 eIi64 (spec_l05Times a0)) := by
  generalize hR : spec_l05Times a0 = r
  unfold spec_l05Times at hR
  refine di Tryz.func228 Tryz.ntmps228 Tryz.results228 ?_
  intro c hL hc hk
  obtain ⟨hL0, _⟩ := hL
  have hw0 : bwCharacter a0 := Character_lens a0 hL0
  clear hL0
  simp only [pars, Nat.zero_add]
  have hg9 : ∀ i : Nat, a0.Group.getD i default ≤ 9 := fun i => getD_le hp1 i
  have hs9 := morse_len ((a0.Letter.getD 0 0).toNat : Int)
  have hg1 : ∀ i : Nat, ([1] : List Int).getD i default ≤ 9 := fun i => getD_le (by simp) i
  iterate 3 refine rS ?_
  refine AWP.cond rfl (fun hb => ?_) (fun hb => ?_)
  · replace hR := ct hR
    iterate 2 refine rS ?_
    refine AWP.block ?_
    generalize hz1 : loopR (spec_l05Times_b1 a0) (((spec_l05Morse ((a0.Letter.getD 0 0).toNat : Int)).length) - 0) 0 ([] : List Int) = z1 at hR
    refine AWP.range (spec_l05Times_b1 a0) (fun i1 s1 => ⟨[(3, .ref 0 1 0 s1.length), (4, .ref 1 1 0 ((spec_l05Morse ((a0.Letter.getD 0 0).toNat : Int)).length)), (5, .int .i64 (i1 : Int))], [.arr 2 1 s1.length (fun j => eIi64 (s1.getD j default)), .arr 2 1 (spec_l05Morse ((a0.Letter.getD 0 0).toNat : Int)).length (fun j => eIi64 ((spec_l05Morse ((a0.Letter.getD 0 0).toNat : Int)).getD j default))]⟩) (fun i1 s1 => s1.length ≤ ([] : List Int).length + 2 * i1 ∧ s1.length ≤ 2 * i1) (((spec_l05Morse ((a0.Letter.getD 0 0).toNat : Int)).length)) 0 ([] : List Int) [0, 1] hz1 ot wt sm ?_
    clear hz1
    intro i1 s1 hi1 hW1 hz1
    refine rS ?_
    refine AWP.cond rfl (fun hb => ?_) (fun hb => ?_)
    · have hlt1 : i1 < ((spec_l05Morse ((a0.Letter.getD 0 0).toNat : Int)).length) := ot
      rw [loopR_lt hlt1] at hz1; simp only [spec_l05Times_b1] at hz1
      refine rS ?_
      refine AWP.cond rfl (fun hb => ?_) (fun hb => ?_)
      · simp only [hb, cond_true] at hz1
        iterate 3 refine rS ?_
        exact ⟨_, [5, 1], hlt1, wt, hz1, sm⟩
      · simp only [hb, cond_false] at hz1
        iterate 2 refine rS ?_
        exact ⟨_, [3, 1], hlt1, wt, hz1, sm⟩
    · obtain rfl : i1 = ((spec_l05Morse ((a0.Letter.getD 0 0).toNat : Int)).length) := ot
      rw [loopR_ge (Nat.le_refl _)] at hz1; subst hz1; dsimp only at hR
      refine AWP.exit ?_; refine exitTo_here ?_
      refine rS ?_
      refine AWP.ret ?_
      subst hR
      exact es
  · replace hR := cf hR
    iterate 2 refine rS ?_
    refine AWP.cond rfl (fun hb => ?_) (fun hb => ?_)
    · replace hR := ct hR
      iterate 2 refine rS ?_
      refine AWP.block ?_
      generalize hz2 : loopR (spec_l05Times_b2 a0) (1 - 0) 0 ([] : List Int) = z2 at hR
      refine AWP.range (spec_l05Times_b2 a0) (fun i2 s2 => ⟨[(0, .ep (eCharacter a0)), (3, .ref 0 1 0 s2.length), (6, .ref 1 1 0 1), (7, .int .i64 (i2 : Int))], [.arr 2 1 s2.length (fun j => eIi64 (s2.getD j default)), .arr 2 1 ([1] : List Int).length (fun j => eIi64 (([1] : List Int).getD j default))]⟩) (fun i2 s2 => s2.length ≤ 18 * i2) (1) 0 ([] : List Int) [0, 1] hz2 ot wt sm ?_
      clear hz2
      intro i2 s2 hi2 hW2 hz2
      refine rS ?_
      refine AWP.cond rfl (fun hb => ?_) (fun hb => ?_)
      · have hlt2 : i2 < 1 := ot
        rw [loopR_lt hlt2] at hz2; simp only [spec_l05Times_b2] at hz2
        refine rS ?_
        refine AWP.block ?_
        generalize hz3 : loopR (spec_l05Times_b3 a0 i2 s2) (((([1] : List Int).getD i2 default)).toNat - 0) 0 s2 = z3 at hz2
        refine AWP.range (spec_l05Times_b3 a0 i2 s2) (fun i3 s3 => ⟨[(0, .ep (eCharacter a0)), (3, .ref 0 1 0 s3.length), (6, .ref 1 1 0 1), (7, .int .i64 (i2 : Int)), (8, .int .i64 (i3 : Int))], [.arr 2 1 s3.length (fun j => eIi64 (s3.getD j default)), .arr 2 1 ([1] : List Int).length (fun j => eIi64 (([1] : List Int).getD j default))]⟩) (fun i3 s3 => s3.length ≤ s2.length + 2 * i3 ∧ s3.length ≤ 18 * i2 + 2 * i3) (((([1] : List Int).getD i2 default)).toNat) 0 s2 [0, 1] hz3 ot wt sm ?_
        clear hz3
        intro i3 s3 hi3 hW3 hz3
        refine rS ?_
        refine AWP.cond rfl (fun hb => ?_) (fun hb => ?_)
        · have hlt3 : i3 < ((([1] : List Int).getD i2 default)).toNat := ot
          rw [loopR_lt hlt3] at hz3; simp only [spec_l05Times_b3] at hz3
          refine rS ?_
          refine AWP.cond rfl (fun hb => ?_) (fun hb => ?_)
          · simp only [hb, cond_true] at hz3
            iterate 3 refine rS ?_
            exact ⟨_, [5, 1], hlt3, wt, hz3, sm⟩
          · simp only [hb, cond_false] at hz3
            refine rS ?_
            refine AWP.cond rfl (fun hb => ?_) (fun hb => ?_)
            · simp only [hb, cond_true] at hz3
              iterate 3 refine rS ?_
              exact ⟨_, [5, 1], hlt3, wt, hz3, sm⟩
            · simp only [hb, cond_false] at hz3
              iterate 2 refine rS ?_
              exact ⟨_, [3, 1], hlt3, wt, hz3, sm⟩
        · obtain rfl : i3 = ((([1] : List Int).getD i2 default)).toNat := ot
          rw [loopR_ge (Nat.le_refl _)] at hz3; subst hz3; dsimp only at hz2
          refine AWP.exit ?_; refine exitTo_here ?_
          refine rS ?_
          exact ⟨_, [0, 1], hlt2, by (have h9 := hg1 i2; omega), hz2, sm⟩
      · obtain rfl : i2 = 1 := ot
        rw [loopR_ge (Nat.le_refl _)] at hz2; subst hz2; dsimp only at hR
        refine AWP.exit ?_; refine exitTo_here ?_
        refine rS ?_
        refine AWP.cond rfl (fun hb => ?_) (fun hb => ?_)
        · replace hR := ct hR
          iterate 2 refine rS ?_
          refine AWP.ret ?_
          subst hR
          exact es
        · replace hR := cf hR
          refine rS ?_
          refine AWP.ret ?_
          subst hR
          exact es
    · replace hR := cf hR
      refine rS ?_
      refine AWP.block ?_
      refine AWP.lensS 6 rfl (fun hLn4 => ?_)
      generalize hz4 : loopR (spec_l05Times_b4 a0) (a0.Group.length - 0) 0 ([] : List Int) = z4 at hR
      refine AWP.range (spec_l05Times_b4 a0) (fun i4 s4 => ⟨[(0, .ep (eCharacter a0)), (3, .ref 0 1 0 s4.length), (6, encL 1 eIi64 a0.Group), (7, .int .i64 (i4 : Int))], [.arr 2 1 s4.length (fun j => eIi64 (s4.getD j default))]⟩) (fun i4 s4 => s4.length ≤ 18 * i4) (a0.Group.length) 0 ([] : List Int) [0] hz4 ot wt sm ?_
      clear hz4
      intro i4 s4 hi4 hW4 hz4
      refine rS ?_
      refine AWP.cond rfl (fun hb => ?_) (fun hb => ?_)
      · have hlt4 : i4 < a0.Group.length := ot
        rw [loopR_lt hlt4] at hz4; simp only [spec_l05Times_b4] at hz4
        refine rS ?_
        refine AWP.block ?_
        generalize hz5 : loopR (spec_l05Times_b5 a0 i4 s4) (((a0.Group.getD i4 default)).toNat - 0) 0 s4 = z5 at hz4
        refine AWP.range (spec_l05Times_b5 a0 i4 s4) (fun i5 s5 => ⟨[(0, .ep (eCharacter a0)), (3, .ref 0 1 0 s5.length), (6, encL 1 eIi64 a0.Group), (7, .int .i64 (i4 : Int)), (8, .int .i64 (i5 : Int))], [.arr 2 1 s5.length (fun j => eIi64 (s5.getD j default))]⟩) (fun i5 s5 => s5.length ≤ s4.length + 2 * i5 ∧ s5.length ≤ 18 * i4 + 2 * i5) (((a0.Group.getD i4 default)).toNat) 0 s4 [0] hz5 ot wt sm ?_
        clear hz5
        intro i5 s5 hi5 hW5 hz5
        refine rS ?_
        refine AWP.cond rfl (fun hb => ?_) (fun hb => ?_)
        · have hlt5 : i5 < ((a0.Group.getD i4 default)).toNat := ot
          rw [loopR_lt hlt5] at hz5; simp only [spec_l05Times_b5] at hz5
          refine rS ?_
          refine AWP.cond rfl (fun hb => ?_) (fun hb => ?_)
          · simp only [hb, cond_true] at hz5
            iterate 3 refine rS ?_
            exact ⟨_, [4], hlt5, wt, hz5, sm⟩
          · simp only [hb, cond_false] at hz5
            refine rS ?_
            refine AWP.cond rfl (fun hb => ?_) (fun hb => ?_)
            · simp only [hb, cond_true] at hz5
              iterate 3 refine rS ?_
              exact ⟨_, [4], hlt5, wt, hz5, sm⟩
            · simp only [hb, cond_false] at hz5
              iterate 2 refine rS ?_
              exact ⟨_, [2], hlt5, wt, hz5, sm⟩
        · obtain rfl : i5 = ((a0.Group.getD i4 default)).toNat := ot
          rw [loopR_ge (Nat.le_refl _)] at hz5; subst hz5; dsimp only at hz4
          refine AWP.exit ?_; refine exitTo_here ?_
          refine rS ?_
          exact ⟨_, [0], hlt4, by (have h9 := hg9 i4; omega), hz4, sm⟩
      · obtain rfl : i4 = a0.Group.length := ot
        rw [loopR_ge (Nat.le_refl _)] at hz4; subst hz4; dsimp only at hR
        refine AWP.exit ?_; refine exitTo_here ?_
        refine rS ?_
        refine AWP.cond rfl (fun hb => ?_) (fun hb => ?_)
        · replace hR := ct hR
          iterate 2 refine rS ?_
          refine AWP.ret ?_
          subst hR
          exact es
        · replace hR := cf hR
          refine rS ?_
          refine AWP.ret ?_
          subst hR
          exact es
end N228
def D_spec_l05Times : DF
  | [x0] => some (ownL 2 1 eIi64 (spec_l05Times (rdP dCharacter x0)), false, [wP eCharacter dCharacter x0, bdCharacter (rdP dCharacter x0), (rdP dCharacter x0).Group.length ≤ 4, ∀ v ∈ (rdP dCharacter x0).Group, v ≤ 9, (rdP dCharacter x0).Kind = 8 → (rdP dCharacter x0).Letter.length = 1 ∧ 65 ≤ ((rdP dCharacter x0).Letter.getD 0 0).toNat ∧ ((rdP dCharacter x0).Letter.getD 0 0).toNat ≤ 90])
  | _ => none
def Dz_spec_l05Times : DF
  | [x0] => some (ownL 2 1 eIi64 (spec_l05Times (rdP dCharacter x0)), true, [wP eCharacter dCharacter x0, bdCharacter (rdP dCharacter x0), (rdP dCharacter x0).Group.length ≤ 4, ∀ v ∈ (rdP dCharacter x0).Group, v ≤ 9, (rdP dCharacter x0).Kind = 8 → (rdP dCharacter x0).Letter.length = 1 ∧ 65 ≤ ((rdP dCharacter x0).Letter.getD 0 0).toNat ∧ ((rdP dCharacter x0).Letter.getD 0 0).toNat ≤ 90])
  | _ => none
theorem D_spec_l05Times_ok : OkD Tryz.prog 228 D_spec_l05Times := by unfold D_spec_l05Times; exact dk N228.den
theorem Dz_spec_l05Times_ok : OkD Tryz.prog 228 Dz_spec_l05Times := by unfold Dz_spec_l05Times; exact dk N228.den
end Go.Ab

namespace Go.Ab
open Go Go.Proofs
def spec_l05Rest (a0 : Character) : Int :=
  (bif (a0.Kind == 6) then 20 else (bif (a0.Kind == 7) then 10 else (bif (a0.Kind == 8) then 30 else (bif decide (1 < (a0.Group.length : Int)) then IntKind.wrap .i64 ((IntKind.wrap .i64 ((spec_l05Gap a0.Kind) + 5)) + 20) else IntKind.wrap .i64 ((spec_l05Gap a0.Kind) + 5)))))
namespace N229
theorem DD : DOk Tryz.prog (Go.Ab.DD [(249, dP D_spec_l05Gap)]) := DD_cons D_spec_l05Gap_ok.e <| DD_nil _
theorem dn : type_of% (@D_spec_l05Gap.eq_1) := by and_intros <;> intros <;> rfl
theorem den (a0 : Character)  : Den Tryz.prog 229 [.ep (eCharacter a0)] (.int .i64 (spec_l05Rest a0)) := by
  generalize hR : spec_l05Rest a0 = r
  unfold spec_l05Rest at hR
  refine di Tryz.func229 Tryz.ntmps229 Tryz.results229 ?_
  intro c hL hc hk
  obtain ⟨hL0, _⟩ := hL
  have hw0 : bwCharacter a0 := Character_lens a0 hL0
  clear hL0
  simp only [pars, Nat.zero_add]
  iterate 3 refine rS ?_
  refine AWP.cond rfl (fun hb => ?_) (fun hb => ?_)
  · replace hR := ct hR
    refine rS ?_
    refine AWP.ret ?_
    subst hR
    exact es
  · replace hR := cf hR
    refine rS ?_
    refine AWP.cond rfl (fun hb => ?_) (fun hb => ?_)
    · replace hR := ct hR
      refine rS ?_
      refine AWP.ret ?_
      subst hR
      exact es
    · replace hR := cf hR
      refine rS ?_
      refine AWP.cond rfl (fun hb => ?_) (fun hb => ?_)
      · replace hR := ct hR
        refine rS ?_
        refine AWP.ret ?_
        subst hR
        exact es
      · replace hR := cf hR
        iterate 2 refine rS ?_
        refine AWP.cond rfl (fun hb => ?_) (fun hb => ?_)
        · replace hR := ct hR
          iterate 2 refine rS ?_
          refine AWP.ret ?_
          subst hR
          exact es
        · replace hR := cf hR
          refine rS ?_
          refine AWP.ret ?_
          subst hR
          exact es
end N229
def D_spec_l05Rest : DF
  | [x0] => some (.int .i64 (spec_l05Rest (rdP dCharacter x0)), false, [wP eCharacter dCharacter x0])
  | _ => none
theorem D_spec_l05Rest_ok : OkD Tryz.prog 229 D_spec_l05Rest := by unfold D_spec_l05Rest; exact dk N229.den
end Go.Ab

namespace Go.Ab
open Go Go.Proofs
def spec_l05Least (a0 : Character) : Int :=
  (bif (spec_l05Steady a0) then 0 else (bif (a0.Kind == 3) then 20 else IntKind.wrap .i64 ((spec_l05Total (spec_l05Times a0)) + (spec_l05Rest a0))))
namespace N192
theorem DD : DOk Tryz.prog (Go.Ab.DD [(191, dP D_spec_l05Steady), (227, dP D_spec_l05Total), (228, dP D_spec_l05Times), (229, dP D_spec_l05Rest)]) := DD_cons D_spec_l05Steady_ok.e <| DD_cons D_spec_l05Total_ok.e <| DD_cons D_spec_l05Times_ok.e <| DD_cons D_spec_l05Rest_ok.e <| DD_nil _
theorem dn : type_of% (And.intro @D_spec_l05Steady.eq_1 <| And.intro @D_spec_l05Total.eq_1 <| And.intro @D_spec_l05Times.eq_1 <| @D_spec_l05Rest.eq_1) := by and_intros <;> intros <;> rfl
theorem den (a0 : Character) (hb0 : bdCharacter a0) (hp0 : a0.Group.length ≤ 4) (hp1 : ∀ v ∈ a0.Group, v ≤ 9) (hp2 : a0.Kind = 8 → a0.Letter.length = 1 ∧ 65 ≤ (a0.Letter.getD 0 0).toNat ∧ (a0.Letter.getD 0 0).toNat ≤ 90) : Den Tryz.prog 192 [.ep (eCharacter a0)] (.int .i64 (spec_l05Least a0)) := by
  generalize hR : spec_l05Least a0 = r
  unfold spec_l05Least at hR
  refine di Tryz.func192 Tryz.ntmps192 Tryz.results192 ?_
  intro c hL hc hk
  obtain ⟨hL0, _⟩ := hL
  have hw0 : bwCharacter a0 := Character_lens a0 hL0
  clear hL0
  simp only [pars, Nat.zero_add]
  iterate 2 refine rS ?_
  refine AWP.cond rfl (fun hb => ?_) (fun hb => ?_)
  · replace hR := ct hR
    refine rS ?_
    refine AWP.ret ?_
    subst hR
    exact es
  · replace hR := cf hR
    refine rS ?_
    refine AWP.cond rfl (fun hb => ?_) (fun hb => ?_)
    · replace hR := ct hR
      refine rS ?_
      refine AWP.ret ?_
      subst hR
      exact es
    · replace hR := cf hR
      refine rS ?_
      refine AWP.ret ?_
      subst hR
      exact es
end N192
def D_spec_l05Least : DF
  | [x0] => some (.int .i64 (spec_l05Least (rdP dCharacter x0)), false, [wP eCharacter dCharacter x0, bdCharacter (rdP dCharacter x0), (rdP dCharacter x0).Group.length ≤ 4, ∀ v ∈ (rdP dCharacter x0).Group, v ≤ 9, (rdP dCharacter x0).Kind = 8 → (rdP dCharacter x0).Letter.length = 1 ∧ 65 ≤ ((rdP dCharacter x0).Letter.getD 0 0).toNat ∧ ((rdP dCharacter x0).Letter.getD 0 0).toNat ≤ 90])
  | _ => none
theorem D_spec_l05Least_ok : OkD Tryz.prog 192 D_spec_l05Least := by unfold D_spec_l05Least; exact dk N192.den
end Go.Ab

namespace Go.Ab
open Go Go.Proofs
def spec_l08Ends (a0 : Sector) : Bool :=
  ((spec_l00In a0.From 0 359) && (spec_l00In a0.To 0 359))
namespace N230
theorem DD : DOk Tryz.prog (Go.Ab.DD [(137, dP D_spec_l00In)]) := DD_cons D_spec_l00In_ok.e <| DD_nil _
theorem dn : type_of% (@D_spec_l00In.eq_1) := by and_intros <;> intros <;> rfl
theorem ol : type_of% (@spec_l00In.eq_1) := @spec_l00In.eq_1
theorem den (a0 : Sector)  : Den Tryz.prog 230 [.ep (eSector a0)] (.bool (spec_l08Ends a0)) := by
  generalize hR : spec_l08Ends a0 = r
  unfold spec_l08Ends at hR
  refine di Tryz.func230 Tryz.ntmps230 Tryz.results230 ?_
  intro c hL hc hk
  obtain ⟨hL0, _⟩ := hL
  have hw0 : bwSector a0 := Sector_lens a0 hL0
  clear hL0
  simp only [pars, Nat.zero_add]
  iterate 2 refine rS ?_
  refine AWP.ret ?_
  subst hR
  exact es
end N230
def D_spec_l08Ends : DF
  | [x0] => some (.bool (spec_l08Ends (rdP dSector x0)), false, [wP eSector dSector x0])
  | _ => none
theorem D_spec_l08Ends_ok : OkD Tryz.prog 230 D_spec_l08Ends := by unfold D_spec_l08Ends; exact dk N230.den
end Go.Ab

namespace Go.Ab
open Go Go.Proofs
def spec_l08Color (a0 : (List UInt8)) : Bool :=
  ((((a0 == [87]) || (a0 == [82])) || (a0 == [71])) || (a0 == [89]))
namespace N231
theorem DD : DOk Tryz.prog (Go.Ab.DD []) := DD_nil _
theorem den (a0 : (List UInt8))  : Den Tryz.prog 231 [.str a0] (.bool (spec_l08Color a0)) := by
  generalize hR : spec_l08Color a0 = r
  unfold spec_l08Color at hR
  refine di Tryz.func231 Tryz.ntmps231 Tryz.results231 ?_
  intro c hL hc hk
  obtain ⟨hL0, _⟩ := hL
  have hw0 : a0.length < 9223372036854775808 := Nat.lt_succ_of_le hL0
  clear hL0
  simp only [pars, Nat.zero_add]
  iterate 2 refine rS ?_
  refine AWP.ret ?_
  subst hR
  exact es
end N231
def D_spec_l08Color : DF
  | [x0] => some (.bool (spec_l08Color (rdS x0)), false, [wS x0])
  | _ => none
theorem D_spec_l08Color_ok : OkD Tryz.prog 231 D_spec_l08Color := by unfold D_spec_l08Color; exact dk N231.den
end Go.Ab

namespace Go.Ab
open Go Go.Proofs
def spec_l08One (a0 : Sector) : Bool :=
  ((spec_l08Ends a0) && (spec_l08Color a0.Color))
namespace N193
theorem DD : DOk Tryz.prog (Go.Ab.DD [(230, dP D_spec_l08Ends), (231, dP D_spec_l08Color)]) := DD_cons D_spec_l08Ends_ok.e <| DD_cons D_spec_l08Color_ok.e <| DD_nil _
theorem dn : type_of% (And.intro @D_spec_l08Ends.eq_1 <| @D_spec_l08Color.eq_1) := by and_intros <;> intros <;> rfl
theorem den (a0 : Sector)  : Den Tryz.prog 193 [.ep (eSector a0)] (.bool (spec_l08One a0)) := by
  generalize hR : spec_l08One a0 = r
  unfold spec_l08One at hR
  refine di Tryz.func193 Tryz.ntmps193 Tryz.results193 ?_
  intro c hL hc hk
  obtain ⟨hL0, _⟩ := hL
  have hw0 : bwSector a0 := Sector_lens a0 hL0
  clear hL0
  simp only [pars, Nat.zero_add]
  iterate 2 refine rS ?_
  refine AWP.ret ?_
  subst hR
  exact es
end N193
def D_spec_l08One : DF
  | [x0] => some (.bool (spec_l08One (rdP dSector x0)), false, [wP eSector dSector x0])
  | _ => none
theorem D_spec_l08One_ok : OkD Tryz.prog 193 D_spec_l08One := by unfold D_spec_l08One; exact dk N193.den
end Go.Ab

namespace Go.Ab
open Go Go.Proofs
def spec_l08Arc (a0 : Sector) : Int :=
  (bif (((IntKind.wrap .i64 ((IntKind.wrap .i64 (a0.To - a0.From)) + 360)).tmod 360) == 0) then 360 else (IntKind.wrap .i64 ((IntKind.wrap .i64 (a0.To - a0.From)) + 360)).tmod 360)
namespace N194
theorem DD : DOk Tryz.prog (Go.Ab.DD []) := DD_nil _
theorem den (a0 : Sector)  : Den Tryz.prog 194 [.ep (eSector a0)] (.int .i64 (spec_l08Arc a0)) := by
  generalize hR : spec_l08Arc a0 = r
  unfold spec_l08Arc at hR
  refine di Tryz.func194 Tryz.ntmps194 Tryz.results194 ?_
  intro c hL hc hk
  obtain ⟨hL0, _⟩ := hL
  have hw0 : bwSector a0 := Sector_lens a0 hL0
  clear hL0
  simp only [pars, Nat.zero_add]
  refine rS ?_
  refine rD 11 ?_
  refine rS ?_
  refine AWP.cond rfl (fun hb => ?_) (fun hb => ?_)
  · replace hR := ct hR
    refine rS ?_
    refine AWP.ret ?_
    subst hR
    exact es
  · replace hR := cf hR
    refine rS ?_
    refine AWP.ret ?_
    subst hR
    exact es
end N194
def D_spec_l08Arc : DF
  | [x0] => some (.int .i64 (spec_l08Arc (rdP dSector x0)), false, [wP eSector dSector x0])
  | _ => none
theorem D_spec_l08Arc_ok : OkD Tryz.prog 194 D_spec_l08Arc := by unfold D_spec_l08Arc; exact dk N194.den
end Go.Ab

namespace Go.Ab
open Go Go.Proofs
def spec_l08Ok_b1 (a0 : (List Sector)) (i1 : Nat) (s1 : Unit) : Except (Bool) (Unit) :=
  (bif ((!(spec_l08One (a0.getD i1 default))) || (decide (0 < (i1 : Int)) && decide (((a0.getD i1 default).From) ≤ ((a0.getD ((IntKind.wrap .i64 ((i1 : Int) - 1)).toNat) default).From)))) then .error false else .ok ())
def spec_l08Ok_b2 (a0 : (List Sector)) (s1 : Unit) (s2 : Int) : Except (Sum (Bool) (Int)) (Int) :=
  (bif (decide (s2 < (a0.length : Int)) && decide (1 < (a0.length : Int))) then (bif decide (((IntKind.wrap .i64 ((IntKind.wrap .i64 (((a0.getD (((IntKind.wrap .i64 (s2 + 1)).tmod (a0.length : Int)).toNat) default).From) - ((a0.getD ((s2).toNat) default).From))) + 360)).tmod 360) < (spec_l08Arc (a0.getD ((s2).toNat) default))) then .error (.inl false) else .ok (IntKind.wrap .i64 (s2 + 1))) else .error (.inr s2))
def spec_l08Ok (a0 : (List Sector)) : Bool :=
  (bif decide (12 < (a0.length : Int)) then false else (match loopR (spec_l08Ok_b1 a0) (a0.length - 0) 0 () with | .error e => e | .ok s1 => (match loopW (spec_l08Ok_b2 a0 s1) ((a0.length - ((0 : Int)).toNat) + 1) 0 with | .error (.inl e) => e | .error (.inr s2) => true | .ok _ => default)))
namespace N153
theorem DD : DOk Tryz.prog (Go.Ab.DD [(193, dP D_spec_l08One), (194, dP D_spec_l08Arc)]) := DD_cons D_spec_l08One_ok.e <| DD_cons D_spec_l08Arc_ok.e <| DD_nil _
theorem dn : type_of% (And.intro @D_spec_l08One.eq_1 <| @D_spec_l08Arc.eq_1) := by and_intros <;> intros <;> rfl
theorem o0 {p : Prop} (h : p := by (first | (have hb2 := hb; simp only [Bool.and_eq_true, decide_eq_true_eq] at hb2; have h9 := nxt_ix hW2.1 hb2.1 (by omega); and_intros <;> first | omega | exact h9.1 | exact h9.2)); first | done | fail) : p := h
theorem den (a0 : (List Sector))  : Den Tryz.prog 153 [encL 3 eSector a0] (.bool (spec_l08Ok a0)) := by
  generalize hR : spec_l08Ok a0 = r
  unfold spec_l08Ok at hR
  refine di Tryz.func153 Tryz.ntmps153 Tryz.results153 ?_
  intro c hL hc hk
  obtain ⟨hL0, _⟩ := hL
  have hw0 : a0.length < 9223372036854775808 := Nat.lt_succ_of_le (lens_encL hL0).1
  have hw1 : ∀ v ∈ a0, bwSector v := fun v hv => Sector_lens v ((lens_encL hL0).2 v hv)
  clear hL0
  simp only [pars, Nat.zero_add]
  iterate 3 refine rS ?_
  refine AWP.cond rfl (fun hb => ?_) (fun hb => ?_)
  · replace hR := ct hR
    refine rS ?_
    refine AWP.ret ?_
    subst hR
    exact es
  · replace hR := cf hR
    refine rS ?_
    refine AWP.block ?_
    generalize hz1 : loopR (spec_l08Ok_b1 a0) (a0.length - 0) 0 () = z1 at hR
    refine AWP.range (spec_l08Ok_b1 a0) (fun i1 s1 => ⟨[(0, encL 3 eSector a0), (3, .int .i64 (a0.length : Int)), (4, .int .i64 (i1 : Int))], []⟩) (fun i1 s1 => True) (a0.length) 0 () [] hz1 ot wt sm ?_
    clear hz1
    intro i1 s1 hi1 hW1 hz1
    refine rS ?_
    refine AWP.cond rfl (fun hb => ?_) (fun hb => ?_)
    · have hlt1 : i1 < a0.length := ot
      rw [loopR_lt hlt1] at hz1; simp only [spec_l08Ok_b1] at hz1
      refine rD 23 ?_
      refine AWP.cond rfl (fun hb => ?_) (fun hb => ?_)
      · simp only [hb, cond_true] at hz1
        refine rS ?_
        refine AWP.ret ?_
        subst hz1
        dsimp only at hR
        subst hR
        exact es
      · simp only [hb, cond_false] at hz1
        refine rS ?_
        exact ⟨_, [], hlt1, wt, hz1, sm⟩
    · obtain rfl : i1 = a0.length := ot
      rw [loopR_ge (Nat.le_refl _)] at hz1; subst hz1; dsimp only at hR
      refine AWP.exit ?_; refine exitTo_here ?_
      refine rS ?_
      refine AWP.block ?_
      generalize hz2 : loopW (spec_l08Ok_b2 a0 s1) ((a0.length - ((0 : Int)).toNat) + 1) 0 = z2 at hR
      refine AWP.whileW (spec_l08Ok_b2 a0 s1) (fun s2 => ⟨[(0, encL 3 eSector a0), (3, .int .i64 (a0.length : Int)), (5, .int .i64 s2)], []⟩) (fun s2 => 0 ≤ s2 ∧ s2 ≤ a0.length) (fun s2 => a0.length - (s2).toNat) ((a0.length - ((0 : Int)).toNat) + 1) 0 [] hz2 m0 wt sm ?_
      clear hz2
      intro s2 k2 hW2 hm2 hz2
      simp only [spec_l08Ok_b2] at hz2
      refine rS ?_
      refine AWP.cond rfl (fun hb => ?_) (fun hb => ?_)
      · simp only [hb, cond_true] at hz2
        refine rD 21 ?_
        refine AWP.cond rfl (fun hb => ?_) (fun hb => ?_)
        · simp only [hb, cond_true] at hz2
          refine rS ?_
          refine AWP.ret ?_
          subst hz2
          dsimp only at hR
          subst hR
          exact es
        · simp only [hb, cond_false] at hz2
          refine rS ?_
          exact ⟨_, [], ms, wt, hz2, sm⟩
      · simp only [hb, cond_false] at hz2
        refine AWP.exit ?_
        refine exitTo_here ?_
        subst hz2; dsimp only at hR
        refine rS ?_
        refine AWP.ret ?_
        subst hR
        exact es
end N153
def D_spec_l08Ok : DF
  | [x0] => some (.bool (spec_l08Ok (rdL dSector x0)), false, [wL 3 eSector dSector x0])
  | _ => none
theorem D_spec_l08Ok_ok : OkD Tryz.prog 153 D_spec_l08Ok := by unfold D_spec_l08Ok; exact dk N153.den
end Go.Ab

namespace Go.Ab
open Go Go.Proofs
def spec_l08Colors_b2 (a0 : (List Sector)) (i1 : Nat) (s1 : List UInt8) (i2 : Nat) (s2 : List UInt8) : Except (Sum ((List UInt8)) (List UInt8)) (List UInt8) :=
  (bif (((a0.getD i2 default).Color) == ([[87], [82], [71], [89]].getD i1 default)) then .error (.inr (s2 ++ ([[87], [82], [71], [89]].getD i1 default))) else .ok s2)
def spec_l08Colors_b1 (a0 : (List Sector)) (i1 : Nat) (s1 : List UInt8) : Except ((List UInt8)) (List UInt8) :=
  (match loopR (spec_l08Colors_b2 a0 i1 s1) (a0.length - 0) 0 s1 with | .error (.inl e) => .error e | .error (.inr s2) => .ok s2 | .ok s2 => .ok s2)
def spec_l08Colors (a0 : (List Sector)) : (List UInt8) :=
  (match loopR (spec_l08Colors_b1 a0) (4 - 0) 0 [] with | .error e => e | .ok s1 => s1)
namespace N154
theorem DD : DOk Tryz.prog (Go.Ab.DD []) := DD_nil _
theorem o0 {p : Prop} (h : p := by (first | (have h4 := hq4 i1; have h1 := hW1; have h2 := hW2; and_intros <;> omega)); first | done | fail) : p := h
theorem lx {p : Prop} (h : p := by (exact lxx); first | done | fail) : p := h
theorem den (a0 : (List Sector)) (hb0 : a0.length < 1099511627776) (hb1 : ∀ v ∈ a0, bdSector v) : Den Tryz.prog 154 [encL 3 eSector a0] (.str (spec_l08Colors a0)) := by
  generalize hR : spec_l08Colors a0 = r
  unfold spec_l08Colors at hR
  refine di Tryz.func154 Tryz.ntmps154 Tryz.results154 ?_
  intro c hL hc hk
  obtain ⟨hL0, _⟩ := hL
  have hw0 : a0.length < 9223372036854775808 := Nat.lt_succ_of_le (lens_encL hL0).1
  have hw1 : ∀ v ∈ a0, bwSector v := fun v hv => Sector_lens v ((lens_encL hL0).2 v hv)
  clear hL0
  simp only [pars, Nat.zero_add]
  have hq4 : ∀ i : Nat, (([[87], [82], [71], [89]] : List (List UInt8)).getD i default).length ≤ 1 := fun i => by rcases i with _ | _ | _ | _ | i <;> first | exact Nat.le_refl _ | exact Nat.zero_le _
  iterate 4 refine rS ?_
  refine AWP.block ?_
  generalize hz1 : loopR (spec_l08Colors_b1 a0) (4 - 0) 0 [] = z1 at hR
  refine AWP.range (spec_l08Colors_b1 a0) (fun i1 s1 => ⟨[(0, encL 3 eSector a0), (3, .str s1), (4, .ref 0 1 0 4), (5, .int .i64 (i1 : Int))], [.arr 9 1 [[87], [82], [71], [89]].length (fun j => eS ([[87], [82], [71], [89]].getD j default))]⟩) (fun i1 s1 => s1.length ≤ i1) (4) 0 [] [0] hz1 ot (by (simp)) sm ?_
  clear hz1
  intro i1 s1 hi1 hW1 hz1
  refine rS ?_
  refine AWP.cond rfl (fun hb => ?_) (fun hb => ?_)
  · have hlt1 : i1 < 4 := ot
    rw [loopR_lt hlt1] at hz1; simp only [spec_l08Colors_b1] at hz1
    refine rS ?_
    refine AWP.block ?_
    generalize hz2 : loopR (spec_l08Colors_b2 a0 i1 s1) (a0.length - 0) 0 s1 = z2 at hz1
    refine AWP.range (spec_l08Colors_b2 a0 i1 s1) (fun i2 s2 => ⟨[(0, encL 3 eSector a0), (3, .str s2), (4, .ref 0 1 0 4), (5, .int .i64 (i1 : Int)), (6, .int .i64 (i2 : Int))], [.arr 9 1 [[87], [82], [71], [89]].length (fun j => eS ([[87], [82], [71], [89]].getD j default))]⟩) (fun i2 s2 => s2.length ≤ i1) (a0.length) 0 s1 [0] hz2 ot (by (exact hW1)) sm ?_
    clear hz2
    intro i2 s2 hi2 hW2 hz2
    refine rS ?_
    refine AWP.cond rfl (fun hb => ?_) (fun hb => ?_)
    · have hlt2 : i2 < a0.length := ot
      rw [loopR_lt hlt2] at hz2; simp only [spec_l08Colors_b2] at hz2
      refine rD 9 ?_
      refine AWP.cond rfl (fun hb => ?_) (fun hb => ?_)
      · simp only [hb, cond_true] at hz2
        refine rS ?_
        refine AWP.exit ?_
        refine exitTo_there rfl ?_
        refine exitTo_here ?_
        subst hz2; dsimp only at hz1
        refine rS ?_
        exact ⟨_, [0], hlt1, by (have h4 := hq4 i1; simp only [ln] at *; omega), hz1, sm⟩
      · simp only [hb, cond_false] at hz2
        refine rS ?_
        exact ⟨_, [0], hlt2, by (first | exact hW2 | assumption), hz2, sm⟩
    · obtain rfl : i2 = a0.length := ot
      rw [loopR_ge (Nat.le_refl _)] at hz2; subst hz2; dsimp only at hz1
      refine AWP.exit ?_; refine exitTo_here ?_
      refine rS ?_
      exact ⟨_, [0], hlt1, by (have h4 := hq4 i1; simp only [ln] at *; omega), hz1, sm⟩
  · obtain rfl : i1 = 4 := ot
    rw [loopR_ge (Nat.le_refl _)] at hz1; subst hz1; dsimp only at hR
    refine AWP.exit ?_; refine exitTo_here ?_
    refine rS ?_
    refine AWP.ret ?_
    subst hR
    exact es
end N154
def D_spec_l08Colors : DF
  | [x0] => some (.str (spec_l08Colors (rdL dSector x0)), false, [wL 3 eSector dSector x0, (rdL dSector x0).length < 1099511627776, ∀ v ∈ (rdL dSector x0), bdSector v])
  | _ => none
theorem D_spec_l08Colors_ok : OkD Tryz.prog 154 D_spec_l08Colors := by unfold D_spec_l08Colors; exact dk N154.den
end Go.Ab

namespace Go.Ab
open Go Go.Proofs
def spec_l11Kind (a0 : Int) : Bool :=
  (spec_l00In a0 1 9)
namespace N220
theorem DD : DOk Tryz.prog (Go.Ab.DD [(137, dP D_spec_l00In)]) := DD_cons D_spec_l00In_ok.e <| DD_nil _
theorem dn : type_of% (@D_spec_l00In.eq_1) := by and_intros <;> intros <;> rfl
theorem ol : type_of% (@spec_l00In.eq_1) := @spec_l00In.eq_1
theorem den (a0 : Int)  : Den Tryz.prog 220 [.int .i64 a0] (.bool (spec_l11Kind a0)) := by
  generalize hR : spec_l11Kind a0 = r
  unfold spec_l11Kind at hR
  refine di Tryz.func220 Tryz.ntmps220 Tryz.results220 ?_
  intro c hL hc hk
  clear hL
  simp only [pars, Nat.zero_add]
  iterate 2 refine rS ?_
  refine AWP.ret ?_
  subst hR
  exact es
end N220
def D_spec_l11Kind : DF
  | [x0] => some (.bool (spec_l11Kind (rdI x0)), false, [wI .i64 x0])
  | _ => none
theorem D_spec_l11Kind_ok : OkD Tryz.prog 220 D_spec_l11Kind := by unfold D_spec_l11Kind; exact dk N220.den
end Go.Ab

namespace Go.Ab
open Go Go.Proofs
def spec_l11Colors (a0 : Int) : (List UInt8) :=
  (([[], [82], [71], [66, 89], [66, 89, 66], [89, 66], [89, 66, 89], [66, 82, 66], [82, 87], [89]] : List (List UInt8)).getD ((a0).toNat) default)
namespace N221
theorem DD : DOk Tryz.prog (Go.Ab.DD []) := DD_nil _
theorem lx {p : Prop} (h : p := by (exact lxx); first | done | fail) : p := h
theorem den (a0 : Int) (hp0 : 0 ≤ a0) (hp1 : a0 ≤ 9) : Den Tryz.prog 221 [.int .i64 a0] (.str (spec_l11Colors a0)) := by
  generalize hR : spec_l11Colors a0 = r
  unfold spec_l11Colors at hR
  refine di Tryz.func221 Tryz.ntmps221 Tryz.results221 ?_
  intro c hL hc hk
  clear hL
  simp only [pars, Nat.zero_add]
  iterate 2 refine rS ?_
  refine AWP.ret ?_
  subst hR
  exact es
end N221
def D_spec_l11Colors : DF
  | [x0] => some (.str (spec_l11Colors (rdI x0)), false, [wI .i64 x0, 0 ≤ (rdI x0), (rdI x0) ≤ 9])
  | _ => none
theorem D_spec_l11Colors_ok : OkD Tryz.prog 221 D_spec_l11Colors := by unfold D_spec_l11Colors; exact dk N221.den
end Go.Ab
