/- A part of a proof: walks of functions and lemmas of our own. No conditions. -/
import Derived.Test.YtaneiddiakjgdaaGreatDoorTAl
import Derived.Test.YtaneiddiakjgdaaGreatDoorTAp
import Derived.Test.YtaneiddiakjgdaaGreatDoorTAn
import Derived.Test.YtaneiddiakjgdaaGreatDoorTAi
import Derived.Test.YtaneiddiakjgdaaGreatDoorTAk
import Derived.Test.YtaneiddiakjgdaaGreatDoorTAo
set_option linter.unusedSectionVars false
set_option linter.unusedVariables false
set_option linter.unusedSimpArgs false
set_option maxHeartbeats 1000000
namespace Go.Ab
open Go Go.Proofs
def impl_markShapes (a0 : Int) : (List (List UInt8)) :=
  (strings_Fields (impl_pick a0 ([[], [99, 97, 110, 32, 112, 105, 108, 108, 97, 114, 32, 115, 112, 97, 114], [99, 111, 110, 101, 32, 112, 105, 108, 108, 97, 114, 32, 115, 112, 97, 114], [112, 105, 108, 108, 97, 114, 32, 115, 112, 97, 114], [112, 105, 108, 108, 97, 114, 32, 115, 112, 97, 114], [112, 105, 108, 108, 97, 114, 32, 115, 112, 97, 114], [112, 105, 108, 108, 97, 114, 32, 115, 112, 97, 114], [112, 105, 108, 108, 97, 114, 32, 115, 112, 97, 114], [115, 112, 104, 101, 114, 101, 32, 112, 105, 108, 108, 97, 114, 32, 115, 112, 97, 114], [99, 97, 110, 32, 99, 111, 110, 101, 32, 112, 105, 108, 108, 97, 114, 32, 115, 112, 97, 114, 32, 115, 112, 104, 101, 114, 101]] : List (List UInt8))))
namespace N199
theorem DD : DOk Tryz.prog (Go.Ab.DD [(232, dP D_impl_pick), (234, dP D_strings_Fields)]) := DD_cons D_impl_pick_ok.e <| DD_cons D_strings_Fields_ok.e <| DD_nil _
theorem dn : type_of% (And.intro @D_impl_pick.eq_1 <| @D_strings_Fields.eq_1) := by and_intros <;> intros <;> rfl
theorem o0 {p : Prop} (h : p := by (first | (and_intros <;> first | exact pick_all (P := fun y => y.length ≤ 1048576) _ _ (by simp) (by simp) | exact pick_all (P := fun y => ∀ x ∈ y, x.toNat < 128) _ _ (by simp) (by simp))); first | done | fail) : p := h
theorem lx {p : Prop} (h : p := by (exact lxx); first | done | fail) : p := h
theorem den (a0 : Int)  : Den Tryz.prog 199 [.int .i64 a0] (ownL 9 1 eS (impl_markShapes a0)) := by
  generalize hR : impl_markShapes a0 = r
  unfold impl_markShapes at hR
  refine di Tryz.func199 Tryz.ntmps199 Tryz.results199 ?_
  intro c hL hc hk
  clear hL
  simp only [pars, Nat.zero_add]
  iterate 2 refine rS ?_
  refine AWP.ret ?_
  subst hR
  exact es
end N199
def D_impl_markShapes : DF
  | [x0] => some (ownL 9 1 eS (impl_markShapes (rdI x0)), false, [wI .i64 x0])
  | _ => none
def Dz_impl_markShapes : DF
  | [x0] => some (ownL 9 1 eS (impl_markShapes (rdI x0)), true, [wI .i64 x0])
  | _ => none
theorem D_impl_markShapes_ok : OkD Tryz.prog 199 D_impl_markShapes := by unfold D_impl_markShapes; exact dk N199.den
theorem Dz_impl_markShapes_ok : OkD Tryz.prog 199 Dz_impl_markShapes := by unfold Dz_impl_markShapes; exact dk N199.den
end Go.Ab

namespace Go.Ab
open Go Go.Proofs
def impl_markTop (a0 : Int) : (List UInt8) :=
  (impl_pick a0 ([[], [99, 97, 110], [99, 111, 110, 101], [117, 112], [98, 97, 115, 101], [100, 111, 119, 110], [112, 111, 105, 110, 116], [98, 97, 108, 108, 115], [98, 97, 108, 108], [99, 114, 111, 115, 115]] : List (List UInt8)))
namespace N200
theorem DD : DOk Tryz.prog (Go.Ab.DD [(232, dP D_impl_pick)]) := DD_cons D_impl_pick_ok.e <| DD_nil _
theorem dn : type_of% (@D_impl_pick.eq_1) := by and_intros <;> intros <;> rfl
theorem lx {p : Prop} (h : p := by (exact lxx); first | done | fail) : p := h
theorem den (a0 : Int)  : Den Tryz.prog 200 [.int .i64 a0] (.str (impl_markTop a0)) := by
  generalize hR : impl_markTop a0 = r
  unfold impl_markTop at hR
  refine di Tryz.func200 Tryz.ntmps200 Tryz.results200 ?_
  intro c hL hc hk
  clear hL
  simp only [pars, Nat.zero_add]
  iterate 2 refine rS ?_
  refine AWP.ret ?_
  subst hR
  exact es
end N200
def D_impl_markTop : DF
  | [x0] => some (.str (impl_markTop (rdI x0)), false, [wI .i64 x0])
  | _ => none
theorem D_impl_markTop_ok : OkD Tryz.prog 200 D_impl_markTop := by unfold D_impl_markTop; exact dk N200.den
end Go.Ab

namespace Go.Ab
open Go Go.Proofs
def impl_ValidMark (a0 : Mark) : Bool :=
  (bif (a0.Kind == 0 && (a0.Colors == [] && (a0.Shape == [] && a0.Topmark == []))) then true else ((((impl_isMarkKind a0.Kind) && (a0.Colors == (impl_markColors a0.Kind))) && (slices_Contains_string (impl_markShapes a0.Kind) a0.Shape)) && ((a0.Topmark == []) || (a0.Topmark == (impl_markTop a0.Kind)))))
namespace N162
theorem DD : DOk Tryz.prog (Go.Ab.DD [(196, dP D_impl_isMarkKind), (197, dP D_impl_markColors), (198, dP D_slices_Contains_string), (199, dP D_impl_markShapes), (200, dP D_impl_markTop)]) := DD_cons D_impl_isMarkKind_ok.e <| DD_cons D_impl_markColors_ok.e <| DD_cons D_slices_Contains_string_ok.e <| DD_cons D_impl_markShapes_ok.e <| DD_cons D_impl_markTop_ok.e <| DD_nil _
theorem DZ : DOk Tryz.prog (Go.Ab.DD [(196, dP D_impl_isMarkKind), (197, dP D_impl_markColors), (198, dP D_slices_Contains_string), (199, dP Dz_impl_markShapes), (200, dP D_impl_markTop)]) := DD_cons D_impl_isMarkKind_ok.e <| DD_cons D_impl_markColors_ok.e <| DD_cons D_slices_Contains_string_ok.e <| DD_cons Dz_impl_markShapes_ok.e <| DD_cons D_impl_markTop_ok.e <| DD_nil _
theorem dn : type_of% (And.intro @D_impl_isMarkKind.eq_1 <| And.intro @D_impl_markColors.eq_1 <| And.intro @D_slices_Contains_string.eq_1 <| And.intro @D_impl_markShapes.eq_1 <| And.intro @D_impl_markTop.eq_1 <| @Dz_impl_markShapes.eq_1) := by and_intros <;> intros <;> rfl
theorem den (a0 : Mark) (hb0 : bdMark a0) : Den Tryz.prog 162 [.agg (eMark a0)] (.bool (impl_ValidMark a0)) := by
  generalize hR : impl_ValidMark a0 = r
  unfold impl_ValidMark at hR
  refine di Tryz.func162 Tryz.ntmps162 Tryz.results162 ?_
  intro c hL hc hk
  obtain ⟨hL0, _⟩ := hL
  have hw0 : bwMark a0 := Mark_lens a0 hL0
  clear hL0
  simp only [pars, Nat.zero_add]
  iterate 2 refine rS ?_
  refine AWP.cond rfl (fun hb => ?_) (fun hb => ?_)
  · replace hR := ct hR
    refine rS ?_
    refine AWP.ret ?_
    subst hR
    exact es
  · replace hR := cf hR
    refine rZ 32 ?_
    refine AWP.ret ?_
    subst hR
    exact es
end N162
def D_impl_ValidMark : DF
  | [x0] => some (.bool (impl_ValidMark (rdG dMark x0)), false, [wG eMark dMark x0, bdMark (rdG dMark x0)])
  | _ => none
theorem D_impl_ValidMark_ok : OkD Tryz.prog 162 D_impl_ValidMark := by unfold D_impl_ValidMark; exact dk N162.den
end Go.Ab

namespace Go.Ab
open Go Go.Proofs
def impl_same_int64_b1 (a0 : (List Int)) (a1 : (List Int)) (i1 : Nat) (s1 : Unit) : Except (Bool) (Unit) :=
  (bif ((a0.getD i1 default) != (a1.getD i1 default)) then .error false else .ok ())
def impl_same_int64 (a0 : (List Int)) (a1 : (List Int)) : Bool :=
  (bif ((a0.length : Int) != (a1.length : Int)) then false else (match loopR (impl_same_int64_b1 a0 a1) (a0.length - 0) 0 () with | .error e => e | .ok s1 => true))
namespace N219
theorem DD : DOk Tryz.prog (Go.Ab.DD []) := DD_nil _
theorem den (a0 : (List Int)) (a1 : (List Int))  : Den Tryz.prog 219 [encL 1 eIi64 a0, encL 1 eIi64 a1] (.bool (impl_same_int64 a0 a1)) := by
  generalize hR : impl_same_int64 a0 a1 = r
  unfold impl_same_int64 at hR
  refine di Tryz.func219 Tryz.ntmps219 Tryz.results219 ?_
  intro c hL hc hk
  obtain ⟨hL0, hL1, _⟩ := hL
  have hw0 : a0.length < 9223372036854775808 := Nat.lt_succ_of_le (lens_encL hL0).1
  have hw1 : a1.length < 9223372036854775808 := Nat.lt_succ_of_le (lens_encL hL1).1
  clear hL0 hL1
  simp only [pars, Nat.zero_add]
  iterate 2 refine rS ?_
  refine AWP.cond rfl (fun hb => ?_) (fun hb => ?_)
  · replace hR := ct hR
    refine rS ?_
    refine AWP.ret ?_
    subst hR
    exact es
  · replace hR := cf hR
    refine rS ?_
    refine AWP.block ?_
    generalize hz1 : loopR (impl_same_int64_b1 a0 a1) (a0.length - 0) 0 () = z1 at hR
    refine AWP.range (impl_same_int64_b1 a0 a1) (fun i1 s1 => ⟨[(0, encL 1 eIi64 a0), (1, encL 1 eIi64 a1), (12, .int .i64 (a0.length : Int)), (13, .int .i64 (i1 : Int))], []⟩) (fun i1 s1 => True) (a0.length) 0 () [] hz1 ot wt sm ?_
    clear hz1
    intro i1 s1 hi1 hW1 hz1
    refine rS ?_
    refine AWP.seq ?_
    refine AWP.cond rfl (fun hb => ?_) (fun hb => ?_)
    · have hlt1 : i1 < a0.length := ot
      rw [loopR_lt hlt1] at hz1; simp only [impl_same_int64_b1] at hz1
      refine rS ?_
      refine rD 8 ?_
      refine AWP.cond rfl (fun hb => ?_) (fun hb => ?_)
      · simp only [hb, cond_true] at hz1
        refine rS ?_
        refine AWP.ret ?_
        subst hz1
        dsimp only at hR
        subst hR
        exact es
      · simp only [hb, cond_false] at hz1
        refine rS ?_
        exact ⟨_, [], hlt1, wt, hz1, sm⟩
    · obtain rfl : i1 = a0.length := ot
      rw [loopR_ge (Nat.le_refl _)] at hz1; subst hz1; dsimp only at hR
      refine AWP.exit ?_; refine exitTo_here ?_
      refine rS ?_
      refine AWP.ret ?_
      subst hR
      exact es
end N219
def D_impl_same_int64 : DF
  | [x0, x1] => some (.bool (impl_same_int64 (rdL dIi64 x0) (rdL dIi64 x1)), false, [wL 1 eIi64 dIi64 x0, wL 1 eIi64 dIi64 x1])
  | _ => none
theorem D_impl_same_int64_ok : OkD Tryz.prog 219 D_impl_same_int64 := by unfold D_impl_same_int64; exact dk N219.den
end Go.Ab

namespace Go.Ab
open Go Go.Proofs
theorem same_int64_dec (a b : List Int) : impl_same_int64 a b = decide (a = b) := by
  unfold impl_same_int64
  by_cases hl : a.length = b.length
  · have h1 : ((a.length : Int) != (b.length : Int)) = false := by simp [hl]
    rw [h1, cond_false, loopR_any (b := impl_same_int64_b1 a b) (fun j => !decide (a.getD j default = b.getD j default)) false (fun j u _ _ => by simp only [impl_same_int64_b1, ned])]
    simp only [Nat.sub_zero, Nat.zero_add]
    rw [any_ne a b hl]
    by_cases h : a = b <;> simp [h]
  · have h1 : ((a.length : Int) != (b.length : Int)) = true := by simp; omega
    have h2 : ¬ a = b := fun e => hl (by rw [e])
    rw [h1, cond_true, decide_eq_false h2]
end Go.Ab

namespace Go.Ab
open Go Go.Proofs
def impl_isNumber (a0 : Int) : Bool :=
  (impl_within a0 1 9999)
namespace N158
theorem DD : DOk Tryz.prog (Go.Ab.DD [(139, dP D_impl_within)]) := DD_cons D_impl_within_ok.e <| DD_nil _
theorem dn : type_of% (@D_impl_within.eq_1) := by and_intros <;> intros <;> rfl
theorem ol : type_of% (@impl_within.eq_1) := @impl_within.eq_1
theorem den (a0 : Int)  : Den Tryz.prog 158 [.int .i64 a0] (.bool (impl_isNumber a0)) := by
  generalize hR : impl_isNumber a0 = r
  unfold impl_isNumber at hR
  refine di Tryz.func158 Tryz.ntmps158 Tryz.results158 ?_
  intro c hL hc hk
  clear hL
  simp only [pars, Nat.zero_add]
  iterate 2 refine rS ?_
  refine AWP.ret ?_
  subst hR
  exact es
end N158
def D_impl_isNumber : DF
  | [x0] => some (.bool (impl_isNumber (rdI x0)), false, [wI .i64 x0])
  | _ => none
theorem D_impl_isNumber_ok : OkD Tryz.prog 158 D_impl_isNumber := by unfold D_impl_isNumber; exact dk N158.den
end Go.Ab

namespace Go.Ab
open Go Go.Proofs
def impl_ValidPoint (a0 : Point) : Bool :=
  ((impl_within a0.X 0 200000) && (impl_within a0.Y 0 200000))
namespace N160
theorem DD : DOk Tryz.prog (Go.Ab.DD [(139, dP D_impl_within)]) := DD_cons D_impl_within_ok.e <| DD_nil _
theorem dn : type_of% (@D_impl_within.eq_1) := by and_intros <;> intros <;> rfl
theorem ol : type_of% (@impl_within.eq_1) := @impl_within.eq_1
theorem den (a0 : Point)  : Den Tryz.prog 160 [.agg (ePoint a0)] (.bool (impl_ValidPoint a0)) := by
  generalize hR : impl_ValidPoint a0 = r
  unfold impl_ValidPoint at hR
  refine di Tryz.func160 Tryz.ntmps160 Tryz.results160 ?_
  intro c hL hc hk
  clear hL
  simp only [pars, Nat.zero_add]
  iterate 2 refine rS ?_
  refine AWP.ret ?_
  subst hR
  exact es
end N160
def D_impl_ValidPoint : DF
  | [x0] => some (.bool (impl_ValidPoint (rdG dPoint x0)), false, [wG ePoint dPoint x0])
  | _ => none
theorem D_impl_ValidPoint_ok : OkD Tryz.prog 160 D_impl_ValidPoint := by unfold D_impl_ValidPoint; exact dk N160.den
end Go.Ab

namespace Go.Ab
open Go Go.Proofs
def impl_isHeight (a0 : Int) : Bool :=
  (impl_within a0 0 3000)
namespace N161
theorem DD : DOk Tryz.prog (Go.Ab.DD [(139, dP D_impl_within)]) := DD_cons D_impl_within_ok.e <| DD_nil _
theorem dn : type_of% (@D_impl_within.eq_1) := by and_intros <;> intros <;> rfl
theorem ol : type_of% (@impl_within.eq_1) := @impl_within.eq_1
theorem den (a0 : Int)  : Den Tryz.prog 161 [.int .i64 a0] (.bool (impl_isHeight a0)) := by
  generalize hR : impl_isHeight a0 = r
  unfold impl_isHeight at hR
  refine di Tryz.func161 Tryz.ntmps161 Tryz.results161 ?_
  intro c hL hc hk
  clear hL
  simp only [pars, Nat.zero_add]
  iterate 2 refine rS ?_
  refine AWP.ret ?_
  subst hR
  exact es
end N161
def D_impl_isHeight : DF
  | [x0] => some (.bool (impl_isHeight (rdI x0)), false, [wI .i64 x0])
  | _ => none
theorem D_impl_isHeight_ok : OkD Tryz.prog 161 D_impl_isHeight := by unfold D_impl_isHeight; exact dk N161.den
end Go.Ab

namespace Go.Ab
open Go Go.Proofs
def impl_isIntensity (a0 : Int) : Bool :=
  (impl_within a0 1 100000000)
namespace N202
theorem DD : DOk Tryz.prog (Go.Ab.DD [(139, dP D_impl_within)]) := DD_cons D_impl_within_ok.e <| DD_nil _
theorem dn : type_of% (@D_impl_within.eq_1) := by and_intros <;> intros <;> rfl
theorem ol : type_of% (@impl_within.eq_1) := @impl_within.eq_1
theorem den (a0 : Int)  : Den Tryz.prog 202 [.int .i64 a0] (.bool (impl_isIntensity a0)) := by
  generalize hR : impl_isIntensity a0 = r
  unfold impl_isIntensity at hR
  refine di Tryz.func202 Tryz.ntmps202 Tryz.results202 ?_
  intro c hL hc hk
  clear hL
  simp only [pars, Nat.zero_add]
  iterate 2 refine rS ?_
  refine AWP.ret ?_
  subst hR
  exact es
end N202
def D_impl_isIntensity : DF
  | [x0] => some (.bool (impl_isIntensity (rdI x0)), false, [wI .i64 x0])
  | _ => none
theorem D_impl_isIntensity_ok : OkD Tryz.prog 202 D_impl_isIntensity := by unfold D_impl_isIntensity; exact dk N202.den
end Go.Ab

namespace Go.Ab
open Go Go.Proofs
def impl_SameCharacter (a0 : Character) (a1 : Character) : Bool :=
  (((((a0.Kind == a1.Kind) && (impl_same_int64 a0.Group a1.Group)) && (a0.Letter == a1.Letter)) && (a0.Colors == a1.Colors)) && (a0.Period == a1.Period))
namespace N185
theorem DD : DOk Tryz.prog (Go.Ab.DD [(219, dP D_impl_same_int64)]) := DD_cons D_impl_same_int64_ok.e <| DD_nil _
theorem dn : type_of% (@D_impl_same_int64.eq_1) := by and_intros <;> intros <;> rfl
theorem den (a0 : Character) (a1 : Character)  : Den Tryz.prog 185 [.agg (eCharacter a0), .agg (eCharacter a1)] (.bool (impl_SameCharacter a0 a1)) := by
  generalize hR : impl_SameCharacter a0 a1 = r
  unfold impl_SameCharacter at hR
  refine di Tryz.func185 Tryz.ntmps185 Tryz.results185 ?_
  intro c hL hc hk
  obtain ⟨hL0, hL1, _⟩ := hL
  have hw0 : bwCharacter a0 := Character_lens a0 hL0
  have hw1 : bwCharacter a1 := Character_lens a1 hL1
  clear hL0 hL1
  simp only [pars, Nat.zero_add]
  iterate 2 refine rS ?_
  refine AWP.ret ?_
  subst hR
  exact es
end N185
def D_impl_SameCharacter : DF
  | [x0, x1] => some (.bool (impl_SameCharacter (rdG dCharacter x0) (rdG dCharacter x1)), false, [wG eCharacter dCharacter x0, wG eCharacter dCharacter x1])
  | _ => none
theorem D_impl_SameCharacter_ok : OkD Tryz.prog 185 D_impl_SameCharacter := by unfold D_impl_SameCharacter; exact dk N185.den
end Go.Ab

namespace Go.Ab
open Go Go.Proofs
def impl_Aid_unlit (a0 : Aid) : Bool :=
  (((impl_SameCharacter a0.Light ({ Kind := 0, Group := [], Letter := [], Colors := [], Period := 0 : Character })) && ((a0.Sectors.length : Int) == 0)) && (a0.Intensity == 0))
namespace N164
theorem DD : DOk Tryz.prog (Go.Ab.DD [(185, dP D_impl_SameCharacter)]) := DD_cons D_impl_SameCharacter_ok.e <| DD_nil _
theorem dn : type_of% (@D_impl_SameCharacter.eq_1) := by and_intros <;> intros <;> rfl
theorem den (a0 : Aid)  : Den Tryz.prog 164 [.agg (eAid a0)] (.bool (impl_Aid_unlit a0)) := by
  generalize hR : impl_Aid_unlit a0 = r
  unfold impl_Aid_unlit at hR
  refine di Tryz.func164 Tryz.ntmps164 Tryz.results164 ?_
  intro c hL hc hk
  obtain ⟨hL0, _⟩ := hL
  have hw0 : bwAid a0 := Aid_lens a0 hL0
  clear hL0
  simp only [pars, Nat.zero_add]
  iterate 2 refine rS ?_
  refine AWP.ret ?_
  subst hR
  exact es
end N164
def D_impl_Aid_unlit : DF
  | [x0] => some (.bool (impl_Aid_unlit (rdG dAid x0)), false, [wG eAid dAid x0])
  | _ => none
theorem D_impl_Aid_unlit_ok : OkD Tryz.prog 164 D_impl_Aid_unlit := by unfold D_impl_Aid_unlit; exact dk N164.den
end Go.Ab

namespace Go.Ab
open Go Go.Proofs
def impl_aidOf_b1 (a0 : (List Aid)) (a1 : Int) (s1 : Int) : Except (Sum ((Int × Bool)) (Int)) (Int) :=
  (bif (decide (s1 < (a0.length : Int)) && decide (((a0.getD ((s1).toNat) default).Number) < a1)) then .ok (IntKind.wrap .i64 (s1 + 1)) else .error (.inr s1))
def impl_aidOf (a0 : (List Aid)) (a1 : Int) : (Int × Bool) :=
  (match loopW (impl_aidOf_b1 a0 a1) ((a0.length - ((0 : Int)).toNat) + 1) 0 with | .error (.inl e) => e | .error (.inr s1) => (s1, (decide (s1 < (a0.length : Int)) && (((a0.getD ((s1).toNat) default).Number) == a1))) | .ok _ => default)
namespace N94
theorem DD : DOk Tryz.prog (Go.Ab.DD []) := DD_nil _
theorem den (a0 : (List Aid)) (a1 : Int)  : Den Tryz.prog 94 [encL 16 eAid a0, .int .i64 a1] (.tup [.int .i64 ((impl_aidOf a0 a1).1), .bool ((impl_aidOf a0 a1).2)]) := by
  generalize hR : impl_aidOf a0 a1 = r
  unfold impl_aidOf at hR
  refine di Tryz.func94 Tryz.ntmps94 Tryz.results94 ?_
  intro c hL hc hk
  obtain ⟨hL0, hL1, _⟩ := hL
  have hw0 : a0.length < 9223372036854775808 := Nat.lt_succ_of_le (lens_encL hL0).1
  have hw1 : ∀ v ∈ a0, bwAid v := fun v hv => Aid_lens v ((lens_encL hL0).2 v hv)
  clear hL0 hL1
  simp only [pars, Nat.zero_add]
  iterate 2 refine rS ?_
  refine AWP.seq ?_
  refine AWP.block ?_
  generalize hz1 : loopW (impl_aidOf_b1 a0 a1) ((a0.length - ((0 : Int)).toNat) + 1) 0 = z1 at hR
  refine AWP.whileW (impl_aidOf_b1 a0 a1) (fun s1 => ⟨[(0, encL 16 eAid a0), (1, .int .i64 a1), (6, .int .i64 s1)], []⟩) (fun s1 => 0 ≤ s1 ∧ s1 ≤ a0.length) (fun s1 => a0.length - (s1).toNat) ((a0.length - ((0 : Int)).toNat) + 1) 0 [] hz1 m0 wt sm ?_
  clear hz1
  intro s1 k1 hW1 hm1 hz1
  simp only [impl_aidOf_b1] at hz1
  refine rS ?_
  refine AWP.cond rfl (fun hb => ?_) (fun hb => ?_)
  · simp only [hb, cond_true] at hz1
    refine rS ?_
    exact ⟨_, [], ms, wt, hz1, sm⟩
  · simp only [hb, cond_false] at hz1
    refine AWP.exit ?_
    refine exitTo_here ?_
    subst hz1; dsimp only at hR
    refine AWP.seq ?_
    refine AWP.regP mixed G_ok DD hc 15 [0, 1, 2, 3, 4, 5, 6, 7, 8, 9, 10, 11, 12, 13] (.alt 14 [] [6, 7, 8, 9, 10, 11, 12, 13] .leaf .stop) (by kernel_rfl) (by kernel_rfl) (by kernel_rfl) (fun K hK => ?_); simp only [rootP, runN, runP, recheck, nthO, ea, absV, absVL, cput, gv, sv, dn, reduceCtorEq, reduceIte, Nat.reduceBEq, Nat.reduceAdd, Nat.reduceEqDiff, Nat.reduceLT, Nat.reduceLeDiff, Nat.reduceMul, Nat.reduceSub, BEq.rfl, beq_self_eq_true, Int.reduceToNat]
    repeat' apply And.intro
    all_goals first | refine hK _ ?_ | exact ot
    all_goals clear hK K
    refine AWP.ret ?_
    subst hR
    exact es
end N94
def D_impl_aidOf : DF
  | [x0, x1] => some (.tup [.int .i64 ((impl_aidOf (rdL dAid x0) (rdI x1)).1), .bool ((impl_aidOf (rdL dAid x0) (rdI x1)).2)], false, [wL 16 eAid dAid x0, wI .i64 x1])
  | _ => none
theorem D_impl_aidOf_ok : OkD Tryz.prog 94 D_impl_aidOf := by unfold D_impl_aidOf; exact dk N94.den
end Go.Ab

namespace Go.Ab
open Go Go.Proofs
def upto (l : List Aid) (n : Int) : Nat := (l.takeWhile (fun x => decide (x.Number < n))).length
theorem upto_le (l : List Aid) (n : Int) : upto l n ≤ l.length := by unfold upto; exact (List.takeWhile_prefix _).length_le
theorem up_loop {ρ : Type} (l : List Aid) (n : Int) (hl : l.length < 9223372036854775808) (b : Int → Except (Sum ρ Int) Int)
    (hb : ∀ s, b s = bif (decide (s < (l.length : Int)) && decide ((l.getD s.toNat default).Number < n)) then .ok (IntKind.wrap .i64 (s + 1)) else .error (.inr s)) :
    ∀ (r p : List Aid) (k : Nat), l = p ++ r → r.length < k → loopW b k (p.length : Int) = .error (.inr ((p.length + upto r n : Nat) : Int))
  | _, _, 0, _, h => absurd h (Nat.not_lt_zero _)
  | [], p, k + 1, e, _ => by
    subst e
    simp only [loopW, hb, List.append_nil, Int.lt_irrefl, decide_false, Bool.false_and, cond_false]
    simp [upto]
  | x :: r, p, k + 1, e, hk => by
    have hg : l.getD ((p.length : Int)).toNat default = x := by subst e; simp
    have hlt : decide ((p.length : Int) < (l.length : Int)) = true := by subst e; simp; omega
    simp only [loopW, hb, hg, hlt, Bool.true_and]
    cases hx : decide (x.Number < n) with
    | false => simp [upto, List.takeWhile_cons, hx]
    | true =>
      have hw : IntKind.wrap .i64 ((p.length : Int) + 1) = ((p ++ [x]).length : Int) := by
        have : p.length < l.length := by subst e; simp
        have e2 : (p ++ [x]).length = p.length + 1 := by simp
        rw [IntKind.wrap_i64, e2]; omega
      simp only [cond_true, hw]
      rw [up_loop l n hl b hb r (p ++ [x]) k (by simp [e]) (by simp at hk; omega)]
      have e3 : (p ++ [x]).length + upto r n = p.length + upto (x :: r) n := by
        simp [upto, List.takeWhile_cons, hx]; omega
      rw [e3]
theorem aidOf_eq (l : List Aid) (n : Int) (hl : l.length < 9223372036854775808) : impl_aidOf l n = ((upto l n : Int), decide (upto l n < l.length) && ((l.getD (upto l n) default).Number == n)) := by
  unfold impl_aidOf
  have := up_loop l n hl (impl_aidOf_b1 l n) (fun s => rfl) l [] (l.length - (0 : Int).toNat + 1) rfl (by simp)
  simp only [List.length_nil, Nat.zero_add] at this
  have e0 : ((0 : Nat) : Int) = 0 := rfl
  simp only [e0] at this
  rw [this]
  simp
theorem impl_aidOf_ix (l : List Aid) (n : Int) (hl : l.length < 9223372036854775808) : 0 ≤ (impl_aidOf l n).1 ∧ (impl_aidOf l n).1 ≤ l.length ∧ ((impl_aidOf l n).2 = true → (impl_aidOf l n).1 < l.length) := by
  rw [aidOf_eq l n hl]
  have := upto_le l n
  refine ⟨by simp only; omega, by simp only; omega, fun h => ?_⟩
  simp only [Bool.and_eq_true, decide_eq_true_eq] at h
  simp only; omega
end Go.Ab

namespace Go.Ab
open Go Go.Proofs
def impl_clone_int64 (a0 : (List Int)) : (List Int) :=
  (List.replicate 0 (default : Int)) ++ a0
namespace N144
theorem DD : DOk Tryz.prog (Go.Ab.DD []) := DD_nil _
theorem den (a0 : (List Int)) (hb0 : a0.length < 1099511627776) : Den Tryz.prog 144 [encL 1 eIi64 a0] (ownL 2 1 eIi64 (impl_clone_int64 a0)) := by
  generalize hR : impl_clone_int64 a0 = r
  unfold impl_clone_int64 at hR
  refine di Tryz.func144 Tryz.ntmps144 Tryz.results144 ?_
  intro c hL hc hk
  obtain ⟨hL0, _⟩ := hL
  have hw0 : a0.length < 9223372036854775808 := Nat.lt_succ_of_le (lens_encL hL0).1
  clear hL0
  simp only [pars, Nat.zero_add]
  iterate 2 refine rS ?_
  refine AWP.ret ?_
  subst hR
  exact es
end N144
def D_impl_clone_int64 : DF
  | [x0] => some (ownL 2 1 eIi64 (impl_clone_int64 (rdL dIi64 x0)), false, [wL 1 eIi64 dIi64 x0, (rdL dIi64 x0).length < 1099511627776])
  | _ => none
def Dz_impl_clone_int64 : DF
  | [x0] => some (ownL 2 1 eIi64 (impl_clone_int64 (rdL dIi64 x0)), true, [wL 1 eIi64 dIi64 x0, (rdL dIi64 x0).length < 1099511627776])
  | _ => none
theorem D_impl_clone_int64_ok : OkD Tryz.prog 144 D_impl_clone_int64 := by unfold D_impl_clone_int64; exact dk N144.den
theorem Dz_impl_clone_int64_ok : OkD Tryz.prog 144 Dz_impl_clone_int64 := by unfold Dz_impl_clone_int64; exact dk N144.den
end Go.Ab

namespace Go.Ab
open Go Go.Proofs
def impl_clone_Sector (a0 : (List Sector)) : (List Sector) :=
  (List.replicate 0 (default : Sector)) ++ a0
namespace N145
theorem DD : DOk Tryz.prog (Go.Ab.DD []) := DD_nil _
theorem den (a0 : (List Sector)) (hb0 : a0.length < 1099511627776) (hb1 : ∀ v ∈ a0, bdSector v) : Den Tryz.prog 145 [encL 3 eSector a0] (ownL 180 3 eSector (impl_clone_Sector a0)) := by
  generalize hR : impl_clone_Sector a0 = r
  unfold impl_clone_Sector at hR
  refine di Tryz.func145 Tryz.ntmps145 Tryz.results145 ?_
  intro c hL hc hk
  obtain ⟨hL0, _⟩ := hL
  have hw0 : a0.length < 9223372036854775808 := Nat.lt_succ_of_le (lens_encL hL0).1
  have hw1 : ∀ v ∈ a0, bwSector v := fun v hv => Sector_lens v ((lens_encL hL0).2 v hv)
  clear hL0
  simp only [pars, Nat.zero_add]
  iterate 2 refine rS ?_
  refine AWP.ret ?_
  subst hR
  exact es
end N145
def D_impl_clone_Sector : DF
  | [x0] => some (ownL 180 3 eSector (impl_clone_Sector (rdL dSector x0)), false, [wL 3 eSector dSector x0, (rdL dSector x0).length < 1099511627776, ∀ v ∈ (rdL dSector x0), bdSector v])
  | _ => none
def Dz_impl_clone_Sector : DF
  | [x0] => some (ownL 180 3 eSector (impl_clone_Sector (rdL dSector x0)), true, [wL 3 eSector dSector x0, (rdL dSector x0).length < 1099511627776, ∀ v ∈ (rdL dSector x0), bdSector v])
  | _ => none
theorem D_impl_clone_Sector_ok : OkD Tryz.prog 145 D_impl_clone_Sector := by unfold D_impl_clone_Sector; exact dk N145.den
theorem Dz_impl_clone_Sector_ok : OkD Tryz.prog 145 Dz_impl_clone_Sector := by unfold Dz_impl_clone_Sector; exact dk N145.den
end Go.Ab

namespace Go.Ab
open Go Go.Proofs
def impl_copyAid (a0 : Aid) : Aid :=
  { Number := a0.Number, Name := a0.Name, At := a0.At, Height := a0.Height, Mark := a0.Mark, Light := { Kind := a0.Light.Kind, Group := (impl_clone_int64 a0.Light.Group), Letter := a0.Light.Letter, Colors := a0.Light.Colors, Period := a0.Light.Period : Character }, Sectors := (impl_clone_Sector a0.Sectors), Intensity := a0.Intensity : Aid }
namespace N81
theorem DD : DOk Tryz.prog (Go.Ab.DD [(144, dP D_impl_clone_int64), (145, dP D_impl_clone_Sector)]) := DD_cons D_impl_clone_int64_ok.e <| DD_cons D_impl_clone_Sector_ok.e <| DD_nil _
theorem dn : type_of% (And.intro @D_impl_clone_int64.eq_1 <| @D_impl_clone_Sector.eq_1) := by and_intros <;> intros <;> rfl
theorem den (a0 : Aid) (hb0 : bdAid a0) : Den Tryz.prog 81 [.agg (eAid a0)] (.agg (eAidO (impl_copyAid a0))) := by
  generalize hR : impl_copyAid a0 = r
  unfold impl_copyAid at hR
  refine di Tryz.func81 Tryz.ntmps81 Tryz.results81 ?_
  intro c hL hc hk
  obtain ⟨hL0, _⟩ := hL
  have hw0 : bwAid a0 := Aid_lens a0 hL0
  clear hL0
  simp only [pars, Nat.zero_add]
  refine rS ?_
  refine AWP.seq ?_
  refine AWP.regP mixed G_ok DD hc 9 [0, 1, 2, 4, 5] (.alt 3 [7, 8] [4, 5, 7, 8] (.alt 6 [] [7, 8] .leaf .stop) .stop) (by kernel_rfl) (by kernel_rfl) (by kernel_rfl) (fun K hK => ?_); simp only [rootP, runN, runP, recheck, nthO, ea, absV, absVL, cput, gv, sv, dn, reduceCtorEq, reduceIte, Nat.reduceBEq, Nat.reduceAdd, Nat.reduceEqDiff, Nat.reduceLT, Nat.reduceLeDiff, Nat.reduceMul, Nat.reduceSub, BEq.rfl, beq_self_eq_true, Int.reduceToNat]
  repeat' apply And.intro
  all_goals first | refine hK _ ?_ | exact ot
  all_goals clear hK K
  refine rS ?_
  refine AWP.ret ?_
  subst hR
  exact es
end N81
def D_impl_copyAid : DF
  | [x0] => some (.agg (eAidO (impl_copyAid (rdG dAid x0))), false, [wG eAid dAid x0, bdAid (rdG dAid x0)])
  | _ => none
def Dz_impl_copyAid : DF
  | [x0] => some (.agg (eAidO (impl_copyAid (rdG dAid x0))), true, [wG eAid dAid x0, bdAid (rdG dAid x0)])
  | _ => none
theorem D_impl_copyAid_ok : OkD Tryz.prog 81 D_impl_copyAid := by unfold D_impl_copyAid; exact dk N81.den
theorem Dz_impl_copyAid_ok : OkD Tryz.prog 81 Dz_impl_copyAid := by unfold Dz_impl_copyAid; exact dk N81.den
end Go.Ab

namespace Go.Ab
open Go Go.Proofs
def impl_copyAids_b1 (a0 : (List Aid)) (i1 : Nat) (s1 : List Aid) : Except ((List Aid)) (List Aid) :=
  .ok (s1 ++ [impl_copyAid (a0.getD i1 default)])
def impl_copyAids (a0 : (List Aid)) : (List Aid) :=
  (match loopR (impl_copyAids_b1 a0) (a0.length - 0) 0 (List.replicate 0 (default : Aid)) with | .error e => e | .ok s1 => s1)
namespace N96
theorem DD : DOk Tryz.prog (Go.Ab.DD [(81, dP D_impl_copyAid)]) := DD_cons D_impl_copyAid_ok.e <| DD_nil _
theorem dn : type_of% (@D_impl_copyAid.eq_1) := by and_intros <;> intros <;> rfl
theorem den (a0 : (List Aid)) (hb0 : a0.length < 1099511627776) (hb1 : ∀ v ∈ a0, bdAid v) (hp0 : a0.length ≤ 1073741824) : Den Tryz.prog 96 [encL 16 eAid a0] (ownL 63 16 eAidO (impl_copyAids a0)) := by
  generalize hR : impl_copyAids a0 = r
  unfold impl_copyAids at hR
  refine di Tryz.func96 Tryz.ntmps96 Tryz.results96 ?_
  intro c hL hc hk
  obtain ⟨hL0, _⟩ := hL
  have hw0 : a0.length < 9223372036854775808 := Nat.lt_succ_of_le (lens_encL hL0).1
  have hw1 : ∀ v ∈ a0, bwAid v := fun v hv => Aid_lens v ((lens_encL hL0).2 v hv)
  clear hL0
  simp only [pars, Nat.zero_add]
  iterate 3 refine rS ?_
  refine AWP.block ?_
  generalize hz1 : loopR (impl_copyAids_b1 a0) (a0.length - 0) 0 (List.replicate 0 (default : Aid)) = z1 at hR
  refine AWP.range (impl_copyAids_b1 a0) (fun i1 s1 => ⟨[(3, .ref 0 16 0 s1.length), (10, encL 16 eAid a0), (11, .int .i64 (a0.length : Int)), (12, .int .i64 (i1 : Int))], [.arr 63 16 s1.length (fun j => eAidO (s1.getD j default))]⟩) (fun i1 s1 => s1.length ≤ (List.replicate 0 (default : Aid)).length + 1 * i1) (a0.length) 0 (List.replicate 0 (default : Aid)) [0] hz1 ot wt sm ?_
  clear hz1
  intro i1 s1 hi1 hW1 hz1
  refine rS ?_
  refine AWP.seq ?_
  refine AWP.cond rfl (fun hb => ?_) (fun hb => ?_)
  · have hlt1 : i1 < a0.length := ot
    rw [loopR_lt hlt1] at hz1; simp only [impl_copyAids_b1] at hz1
    iterate 3 refine rS ?_
    exact ⟨_, [5], hlt1, wt, hz1, sm⟩
  · obtain rfl : i1 = a0.length := ot
    rw [loopR_ge (Nat.le_refl _)] at hz1; subst hz1; dsimp only at hR
    refine AWP.exit ?_; refine exitTo_here ?_
    refine rS ?_
    refine AWP.ret ?_
    subst hR
    exact es
end N96
def D_impl_copyAids : DF
  | [x0] => some (ownL 63 16 eAidO (impl_copyAids (rdL dAid x0)), false, [wL 16 eAid dAid x0, (rdL dAid x0).length < 1099511627776, ∀ v ∈ (rdL dAid x0), bdAid v, (rdL dAid x0).length ≤ 1073741824])
  | _ => none
def Dz_impl_copyAids : DF
  | [x0] => some (ownL 63 16 eAidO (impl_copyAids (rdL dAid x0)), true, [wL 16 eAid dAid x0, (rdL dAid x0).length < 1099511627776, ∀ v ∈ (rdL dAid x0), bdAid v, (rdL dAid x0).length ≤ 1073741824])
  | _ => none
theorem D_impl_copyAids_ok : OkD Tryz.prog 96 D_impl_copyAids := by unfold D_impl_copyAids; exact dk N96.den
theorem Dz_impl_copyAids_ok : OkD Tryz.prog 96 Dz_impl_copyAids := by unfold Dz_impl_copyAids; exact dk N96.den
end Go.Ab

namespace Go.Ab
open Go Go.Proofs
def impl_same_Sector_b1 (a0 : (List Sector)) (a1 : (List Sector)) (i1 : Nat) (s1 : Unit) : Except (Bool) (Unit) :=
  (bif (!(((a0.getD i1 default).From) == ((a1.getD i1 default).From) && (((a0.getD i1 default).To) == ((a1.getD i1 default).To) && ((a0.getD i1 default).Color) == ((a1.getD i1 default).Color)))) then .error false else .ok ())
def impl_same_Sector (a0 : (List Sector)) (a1 : (List Sector)) : Bool :=
  (bif ((a0.length : Int) != (a1.length : Int)) then false else (match loopR (impl_same_Sector_b1 a0 a1) (a0.length - 0) 0 () with | .error e => e | .ok s1 => true))
namespace N186
theorem DD : DOk Tryz.prog (Go.Ab.DD []) := DD_nil _
theorem den (a0 : (List Sector)) (a1 : (List Sector))  : Den Tryz.prog 186 [encL 3 eSector a0, encL 3 eSector a1] (.bool (impl_same_Sector a0 a1)) := by
  generalize hR : impl_same_Sector a0 a1 = r
  unfold impl_same_Sector at hR
  refine di Tryz.func186 Tryz.ntmps186 Tryz.results186 ?_
  intro c hL hc hk
  obtain ⟨hL0, hL1, _⟩ := hL
  have hw0 : a0.length < 9223372036854775808 := Nat.lt_succ_of_le (lens_encL hL0).1
  have hw1 : ∀ v ∈ a0, bwSector v := fun v hv => Sector_lens v ((lens_encL hL0).2 v hv)
  have hw2 : a1.length < 9223372036854775808 := Nat.lt_succ_of_le (lens_encL hL1).1
  have hw3 : ∀ v ∈ a1, bwSector v := fun v hv => Sector_lens v ((lens_encL hL1).2 v hv)
  clear hL0 hL1
  simp only [pars, Nat.zero_add]
  iterate 2 refine rS ?_
  refine AWP.cond rfl (fun hb => ?_) (fun hb => ?_)
  · replace hR := ct hR
    refine rS ?_
    refine AWP.ret ?_
    subst hR
    exact es
  · replace hR := cf hR
    refine rS ?_
    refine AWP.block ?_
    generalize hz1 : loopR (impl_same_Sector_b1 a0 a1) (a0.length - 0) 0 () = z1 at hR
    refine AWP.range (impl_same_Sector_b1 a0 a1) (fun i1 s1 => ⟨[(0, encL 3 eSector a0), (1, encL 3 eSector a1), (12, .int .i64 (a0.length : Int)), (13, .int .i64 (i1 : Int))], []⟩) (fun i1 s1 => True) (a0.length) 0 () [] hz1 ot wt sm ?_
    clear hz1
    intro i1 s1 hi1 hW1 hz1
    refine rS ?_
    refine AWP.seq ?_
    refine AWP.cond rfl (fun hb => ?_) (fun hb => ?_)
    · have hlt1 : i1 < a0.length := ot
      rw [loopR_lt hlt1] at hz1; simp only [impl_same_Sector_b1] at hz1
      refine rS ?_
      refine rD 8 ?_
      refine AWP.cond rfl (fun hb => ?_) (fun hb => ?_)
      · simp only [hb, cond_true] at hz1
        refine rS ?_
        refine AWP.ret ?_
        subst hz1
        dsimp only at hR
        subst hR
        exact es
      · simp only [hb, cond_false] at hz1
        refine rS ?_
        exact ⟨_, [], hlt1, wt, hz1, sm⟩
    · obtain rfl : i1 = a0.length := ot
      rw [loopR_ge (Nat.le_refl _)] at hz1; subst hz1; dsimp only at hR
      refine AWP.exit ?_; refine exitTo_here ?_
      refine rS ?_
      refine AWP.ret ?_
      subst hR
      exact es
end N186
def D_impl_same_Sector : DF
  | [x0, x1] => some (.bool (impl_same_Sector (rdL dSector x0) (rdL dSector x1)), false, [wL 3 eSector dSector x0, wL 3 eSector dSector x1])
  | _ => none
theorem D_impl_same_Sector_ok : OkD Tryz.prog 186 D_impl_same_Sector := by unfold D_impl_same_Sector; exact dk N186.den
end Go.Ab

namespace Go.Ab
open Go Go.Proofs
def impl_SameAid (a0 : Aid) (a1 : Aid) : Bool :=
  ((((((((a0.Number == a1.Number) && (a0.Name == a1.Name)) && (a0.At.X == a1.At.X && a0.At.Y == a1.At.Y)) && (a0.Height == a1.Height)) && (a0.Mark.Kind == a1.Mark.Kind && (a0.Mark.Colors == a1.Mark.Colors && (a0.Mark.Shape == a1.Mark.Shape && a0.Mark.Topmark == a1.Mark.Topmark)))) && (impl_SameCharacter a0.Light a1.Light)) && (impl_same_Sector a0.Sectors a1.Sectors)) && (a0.Intensity == a1.Intensity))
namespace N143
theorem DD : DOk Tryz.prog (Go.Ab.DD [(185, dP D_impl_SameCharacter), (186, dP D_impl_same_Sector)]) := DD_cons D_impl_SameCharacter_ok.e <| DD_cons D_impl_same_Sector_ok.e <| DD_nil _
theorem dn : type_of% (And.intro @D_impl_SameCharacter.eq_1 <| @D_impl_same_Sector.eq_1) := by and_intros <;> intros <;> rfl
set_option maxHeartbeats 4000000 in
set_option maxRecDepth 20000 in
theorem den (a0 : Aid) (a1 : Aid)  : Den Tryz.prog 143 [.agg (eAid a0), .agg (eAid a1)] (.bool (impl_SameAid a0 a1)) := by
  generalize hR : impl_SameAid a0 a1 = r
  unfold impl_SameAid at hR
  refine di Tryz.func143 Tryz.ntmps143 Tryz.results143 ?_
  intro c hL hc hk
  obtain ⟨hL0, hL1, _⟩ := hL
  have hw0 : bwAid a0 := Aid_lens a0 hL0
  have hw1 : bwAid a1 := Aid_lens a1 hL1
  clear hL0 hL1
  simp only [pars, Nat.zero_add]
  iterate 2 refine rS ?_
  refine AWP.ret ?_
  subst hR
  exact es
end N143
def D_impl_SameAid : DF
  | [x0, x1] => some (.bool (impl_SameAid (rdG dAid x0) (rdG dAid x1)), false, [wG eAid dAid x0, wG eAid dAid x1])
  | _ => none
theorem D_impl_SameAid_ok : OkD Tryz.prog 143 D_impl_SameAid := by unfold D_impl_SameAid; exact dk N143.den
end Go.Ab

namespace Go.Ab
open Go Go.Proofs
def impl_Notice_canCancel_1 (a0 : Notice) (a1 : Notice) : Bool :=
  (a0.Number == a1.Target)
namespace N178
theorem DD : DOk Tryz.prog (Go.Ab.DD []) := DD_nil _
theorem den (a0 : Notice) (a1 : Notice)  : Den Tryz.prog 178 [.agg (eNotice a0), .ep (eNotice a1)] (.bool (impl_Notice_canCancel_1 a0 a1)) := by
  generalize hR : impl_Notice_canCancel_1 a0 a1 = r
  unfold impl_Notice_canCancel_1 at hR
  refine di Tryz.func178 Tryz.ntmps178 Tryz.results178 ?_
  intro c hL hc hk
  obtain ⟨hL0, hL1, _⟩ := hL
  have hw0 : bwNotice a0 := Notice_lens a0 hL0
  have hw1 : bwNotice a1 := Notice_lens a1 hL1
  clear hL0 hL1
  simp only [pars, Nat.zero_add]
  iterate 2 refine rS ?_
  refine AWP.ret ?_
  subst hR
  exact es
end N178
def D_impl_Notice_canCancel_1 : DF
  | [x0, x1] => some (.bool (impl_Notice_canCancel_1 (rdG dNotice x0) (rdP dNotice x1)), false, [wG eNotice dNotice x0, wP eNotice dNotice x1])
  | _ => none
theorem D_impl_Notice_canCancel_1_ok : OkD Tryz.prog 178 D_impl_Notice_canCancel_1 := by unfold D_impl_Notice_canCancel_1; exact dk N178.den
end Go.Ab

namespace Go.Ab
open Go Go.Proofs
def slices_IndexFunc_Notice__impl_Notice_canCancel_1_b1 (a0 : (List Notice)) (a1 : Notice) (i1 : Nat) (s1 : Unit) : Except (Int) (Unit) :=
  (bif (impl_Notice_canCancel_1 (a0.getD i1 default) a1) then .error (i1 : Int) else .ok ())
def slices_IndexFunc_Notice__impl_Notice_canCancel_1 (a0 : (List Notice)) (a1 : Notice) : Int :=
  (match loopR (slices_IndexFunc_Notice__impl_Notice_canCancel_1_b1 a0 a1) (a0.length - 0) 0 () with | .error e => e | .ok s1 => (-1))
namespace N_slices_IndexFunc_Notice__impl_Notice_canCancel_1
theorem DD : DOk Tryz.prog (Go.Ab.DD [(178, dP D_impl_Notice_canCancel_1)]) := DD_cons D_impl_Notice_canCancel_1_ok.e <| DD_nil _
theorem dn : type_of% (@D_impl_Notice_canCancel_1.eq_1) := by and_intros <;> intros <;> rfl
theorem den (a0 : (List Notice)) (a1 : Notice)  : Den Tryz.prog 177 [encL 20 eNotice a0, .fn 178 0 [.ep (eNotice a1)]] (.int .i64 (slices_IndexFunc_Notice__impl_Notice_canCancel_1 a0 a1)) := by
  generalize hR : slices_IndexFunc_Notice__impl_Notice_canCancel_1 a0 a1 = r
  unfold slices_IndexFunc_Notice__impl_Notice_canCancel_1 at hR
  refine di Tryz.func177 Tryz.ntmps177 Tryz.results177 ?_
  intro c hL hc hk
  obtain ⟨hL0, hL1, _⟩ := hL
  have hw0 : a0.length < 9223372036854775808 := Nat.lt_succ_of_le (lens_encL hL0).1
  have hw1 : ∀ v ∈ a0, bwNotice v := fun v hv => Notice_lens v ((lens_encL hL0).2 v hv)
  have hw2 : bwNotice a1 := Notice_lens a1 hL1.1
  clear hL0 hL1
  simp only [pars, Nat.zero_add]
  iterate 2 refine rS ?_
  refine AWP.block ?_
  generalize hz1 : loopR (slices_IndexFunc_Notice__impl_Notice_canCancel_1_b1 a0 a1) (a0.length - 0) 0 () = z1 at hR
  refine AWP.range (slices_IndexFunc_Notice__impl_Notice_canCancel_1_b1 a0 a1) (fun i1 s1 => ⟨[(0, encL 20 eNotice a0), (1, .fn 178 0 [.ep (eNotice a1)]), (7, .int .i64 (a0.length : Int)), (8, .int .i64 (i1 : Int))], []⟩) (fun i1 s1 => True) (a0.length) 0 () [] hz1 ot wt sm ?_
  clear hz1
  intro i1 s1 hi1 hW1 hz1
  refine rS ?_
  refine AWP.seq ?_
  refine AWP.cond rfl (fun hb => ?_) (fun hb => ?_)
  · have hlt1 : i1 < a0.length := ot
    rw [loopR_lt hlt1] at hz1; simp only [slices_IndexFunc_Notice__impl_Notice_canCancel_1_b1] at hz1
    iterate 2 refine rS ?_
    refine AWP.cond rfl (fun hb => ?_) (fun hb => ?_)
    · simp only [hb, cond_true] at hz1
      refine rS ?_
      refine AWP.ret ?_
      subst hz1
      dsimp only at hR
      subst hR
      exact es
    · simp only [hb, cond_false] at hz1
      refine rS ?_
      exact ⟨_, [], hlt1, wt, hz1, sm⟩
  · obtain rfl : i1 = a0.length := ot
    rw [loopR_ge (Nat.le_refl _)] at hz1; subst hz1; dsimp only at hR
    refine AWP.exit ?_; refine exitTo_here ?_
    refine rS ?_
    refine AWP.ret ?_
    subst hR
    exact es
end N_slices_IndexFunc_Notice__impl_Notice_canCancel_1
def D_slices_IndexFunc_Notice__impl_Notice_canCancel_1 : DF
  | [x0, (.fn f178_2 kf178_2 [y1])] => some (.int .i64 (slices_IndexFunc_Notice__impl_Notice_canCancel_1 (rdL dNotice x0) (rdP dNotice y1)), false, [wL 20 eNotice dNotice x0, y1 = .ep (eNotice (rdP dNotice y1)), f178_2 = 178, kf178_2 = 0])
  | _ => none
theorem D_slices_IndexFunc_Notice__impl_Notice_canCancel_1_ok : OkD Tryz.prog 177 D_slices_IndexFunc_Notice__impl_Notice_canCancel_1 := by
  intro xs r z ob h ho
  unfold D_slices_IndexFunc_Notice__impl_Notice_canCancel_1 at h
  split at h
  · simp only [Option.some.injEq, Prod.mk.injEq] at h
    obtain ⟨rfl, rfl, rfl⟩ := h
    obtain ⟨h0, qy1, qf178_2, qkf178_2, _⟩ := ho
    exact Den.sim (N_slices_IndexFunc_Notice__impl_Notice_canCancel_1.den _ _ ) (simOL_cons (wL_sim h0).1 <| simOL_cons (by subst qf178_2 qkf178_2; rw [← qy1]; exact simO_refl _) <| trivial) (noIdL_cons (wL_sim h0).2 <| noIdL_cons (by rw [qy1]; rfl) <| rfl) rfl
  · cases h
end Go.Ab

namespace Go.Ab
open Go Go.Proofs
theorem slices_IndexFunc_Notice__impl_Notice_canCancel_1_first (a0 : List Notice) (a1 : Notice) : (∃ j, j < a0.length ∧ (impl_Notice_canCancel_1 (a0.getD j default) a1) = true ∧ (∀ q, q < j → (impl_Notice_canCancel_1 (a0.getD q default) a1) = false) ∧ slices_IndexFunc_Notice__impl_Notice_canCancel_1 a0 a1 = (j : Int)) ∨ ((∀ q, q < a0.length → (impl_Notice_canCancel_1 (a0.getD q default) a1) = false) ∧ slices_IndexFunc_Notice__impl_Notice_canCancel_1 a0 a1 = -1) := by
  unfold slices_IndexFunc_Notice__impl_Notice_canCancel_1
  rcases loopR_first (b := slices_IndexFunc_Notice__impl_Notice_canCancel_1_b1 a0 a1) (fun j => impl_Notice_canCancel_1 (a0.getD j default) a1) (fun j => (j : Int)) (k := a0.length - 0) (i := 0) (s := ()) (fun j u _ _ => rfl) with ⟨j, _, h2, h3, h4, h5⟩ | ⟨h1, h2⟩
  · left
    rw [h5]
    exact ⟨j, by omega, h3, fun q hq => h4 q (Nat.zero_le _) hq, rfl⟩
  · right
    rw [h2]
    exact ⟨fun q hq => h1 q (Nat.zero_le _) (by omega), rfl⟩
theorem slices_IndexFunc_Notice__impl_Notice_canCancel_1_lt (a0 : List Notice) (a1 : Notice) : -1 ≤ slices_IndexFunc_Notice__impl_Notice_canCancel_1 a0 a1 ∧ slices_IndexFunc_Notice__impl_Notice_canCancel_1 a0 a1 < a0.length := by
  rcases slices_IndexFunc_Notice__impl_Notice_canCancel_1_first a0 a1 with ⟨j, h1, _, _, h2⟩ | ⟨_, h2⟩ <;> omega
end Go.Ab

namespace Go.Ab
open Go Go.Proofs
def impl_Notice_hasAid (a0 : Notice) : Bool :=
  ((a0.Kind == 1) || (a0.Kind == 2))
namespace N176
theorem DD : DOk Tryz.prog (Go.Ab.DD []) := DD_nil _
theorem den (a0 : Notice)  : Den Tryz.prog 176 [.agg (eNotice a0)] (.bool (impl_Notice_hasAid a0)) := by
  generalize hR : impl_Notice_hasAid a0 = r
  unfold impl_Notice_hasAid at hR
  refine di Tryz.func176 Tryz.ntmps176 Tryz.results176 ?_
  intro c hL hc hk
  obtain ⟨hL0, _⟩ := hL
  have hw0 : bwNotice a0 := Notice_lens a0 hL0
  clear hL0
  simp only [pars, Nat.zero_add]
  iterate 2 refine rS ?_
  refine AWP.ret ?_
  subst hR
  exact es
end N176
def D_impl_Notice_hasAid : DF
  | [x0] => some (.bool (impl_Notice_hasAid (rdG dNotice x0)), false, [wG eNotice dNotice x0])
  | _ => none
theorem D_impl_Notice_hasAid_ok : OkD Tryz.prog 176 D_impl_Notice_hasAid := by unfold D_impl_Notice_hasAid; exact dk N176.den
end Go.Ab

namespace Go.Ab
open Go Go.Proofs
def impl_isDay (a0 : Int) : Bool :=
  (impl_within a0 0 99999)
namespace N73
theorem DD : DOk Tryz.prog (Go.Ab.DD [(139, dP D_impl_within)]) := DD_cons D_impl_within_ok.e <| DD_nil _
theorem dn : type_of% (@D_impl_within.eq_1) := by and_intros <;> intros <;> rfl
theorem ol : type_of% (@impl_within.eq_1) := @impl_within.eq_1
theorem den (a0 : Int)  : Den Tryz.prog 73 [.int .i64 a0] (.bool (impl_isDay a0)) := by
  generalize hR : impl_isDay a0 = r
  unfold impl_isDay at hR
  refine di Tryz.func73 Tryz.ntmps73 Tryz.results73 ?_
  intro c hL hc hk
  clear hL
  simp only [pars, Nat.zero_add]
  iterate 2 refine rS ?_
  refine AWP.ret ?_
  subst hR
  exact es
end N73
def D_impl_isDay : DF
  | [x0] => some (.bool (impl_isDay (rdI x0)), false, [wI .i64 x0])
  | _ => none
theorem D_impl_isDay_ok : OkD Tryz.prog 73 D_impl_isDay := by unfold D_impl_isDay; exact dk N73.den
end Go.Ab

namespace Go.Ab
open Go Go.Proofs
def impl_Notice_canCancel_2 (a0 : Notice) (a1 : Notice) : Bool :=
  ((a0.Kind == 4) && (a0.Target == a1.Target))
namespace N179
theorem DD : DOk Tryz.prog (Go.Ab.DD []) := DD_nil _
theorem den (a0 : Notice) (a1 : Notice)  : Den Tryz.prog 179 [.agg (eNotice a0), .ep (eNotice a1)] (.bool (impl_Notice_canCancel_2 a0 a1)) := by
  generalize hR : impl_Notice_canCancel_2 a0 a1 = r
  unfold impl_Notice_canCancel_2 at hR
  refine di Tryz.func179 Tryz.ntmps179 Tryz.results179 ?_
  intro c hL hc hk
  obtain ⟨hL0, hL1, _⟩ := hL
  have hw0 : bwNotice a0 := Notice_lens a0 hL0
  have hw1 : bwNotice a1 := Notice_lens a1 hL1
  clear hL0 hL1
  simp only [pars, Nat.zero_add]
  iterate 2 refine rS ?_
  refine AWP.ret ?_
  subst hR
  exact es
end N179
def D_impl_Notice_canCancel_2 : DF
  | [x0, x1] => some (.bool (impl_Notice_canCancel_2 (rdG dNotice x0) (rdP dNotice x1)), false, [wG eNotice dNotice x0, wP eNotice dNotice x1])
  | _ => none
theorem D_impl_Notice_canCancel_2_ok : OkD Tryz.prog 179 D_impl_Notice_canCancel_2 := by unfold D_impl_Notice_canCancel_2; exact dk N179.den
end Go.Ab

namespace Go.Ab
open Go Go.Proofs
def slices_IndexFunc_Notice__impl_Notice_canCancel_2_b1 (a0 : (List Notice)) (a1 : Notice) (i1 : Nat) (s1 : Unit) : Except (Int) (Unit) :=
  (bif (impl_Notice_canCancel_2 (a0.getD i1 default) a1) then .error (i1 : Int) else .ok ())
def slices_IndexFunc_Notice__impl_Notice_canCancel_2 (a0 : (List Notice)) (a1 : Notice) : Int :=
  (match loopR (slices_IndexFunc_Notice__impl_Notice_canCancel_2_b1 a0 a1) (a0.length - 0) 0 () with | .error e => e | .ok s1 => (-1))
namespace N_slices_IndexFunc_Notice__impl_Notice_canCancel_2
theorem DD : DOk Tryz.prog (Go.Ab.DD [(179, dP D_impl_Notice_canCancel_2)]) := DD_cons D_impl_Notice_canCancel_2_ok.e <| DD_nil _
theorem dn : type_of% (@D_impl_Notice_canCancel_2.eq_1) := by and_intros <;> intros <;> rfl
theorem den (a0 : (List Notice)) (a1 : Notice)  : Den Tryz.prog 177 [encL 20 eNotice a0, .fn 179 0 [.ep (eNotice a1)]] (.int .i64 (slices_IndexFunc_Notice__impl_Notice_canCancel_2 a0 a1)) := by
  generalize hR : slices_IndexFunc_Notice__impl_Notice_canCancel_2 a0 a1 = r
  unfold slices_IndexFunc_Notice__impl_Notice_canCancel_2 at hR
  refine di Tryz.func177 Tryz.ntmps177 Tryz.results177 ?_
  intro c hL hc hk
  obtain ⟨hL0, hL1, _⟩ := hL
  have hw0 : a0.length < 9223372036854775808 := Nat.lt_succ_of_le (lens_encL hL0).1
  have hw1 : ∀ v ∈ a0, bwNotice v := fun v hv => Notice_lens v ((lens_encL hL0).2 v hv)
  have hw2 : bwNotice a1 := Notice_lens a1 hL1.1
  clear hL0 hL1
  simp only [pars, Nat.zero_add]
  iterate 2 refine rS ?_
  refine AWP.block ?_
  generalize hz1 : loopR (slices_IndexFunc_Notice__impl_Notice_canCancel_2_b1 a0 a1) (a0.length - 0) 0 () = z1 at hR
  refine AWP.range (slices_IndexFunc_Notice__impl_Notice_canCancel_2_b1 a0 a1) (fun i1 s1 => ⟨[(0, encL 20 eNotice a0), (1, .fn 179 0 [.ep (eNotice a1)]), (7, .int .i64 (a0.length : Int)), (8, .int .i64 (i1 : Int))], []⟩) (fun i1 s1 => True) (a0.length) 0 () [] hz1 ot wt sm ?_
  clear hz1
  intro i1 s1 hi1 hW1 hz1
  refine rS ?_
  refine AWP.seq ?_
  refine AWP.cond rfl (fun hb => ?_) (fun hb => ?_)
  · have hlt1 : i1 < a0.length := ot
    rw [loopR_lt hlt1] at hz1; simp only [slices_IndexFunc_Notice__impl_Notice_canCancel_2_b1] at hz1
    iterate 2 refine rS ?_
    refine AWP.cond rfl (fun hb => ?_) (fun hb => ?_)
    · simp only [hb, cond_true] at hz1
      refine rS ?_
      refine AWP.ret ?_
      subst hz1
      dsimp only at hR
      subst hR
      exact es
    · simp only [hb, cond_false] at hz1
      refine rS ?_
      exact ⟨_, [], hlt1, wt, hz1, sm⟩
  · obtain rfl : i1 = a0.length := ot
    rw [loopR_ge (Nat.le_refl _)] at hz1; subst hz1; dsimp only at hR
    refine AWP.exit ?_; refine exitTo_here ?_
    refine rS ?_
    refine AWP.ret ?_
    subst hR
    exact es
end N_slices_IndexFunc_Notice__impl_Notice_canCancel_2
def D_slices_IndexFunc_Notice__impl_Notice_canCancel_2 : DF
  | [x0, (.fn f179_2 kf179_2 [y1])] => some (.int .i64 (slices_IndexFunc_Notice__impl_Notice_canCancel_2 (rdL dNotice x0) (rdP dNotice y1)), false, [wL 20 eNotice dNotice x0, y1 = .ep (eNotice (rdP dNotice y1)), f179_2 = 179, kf179_2 = 0])
  | _ => none
theorem D_slices_IndexFunc_Notice__impl_Notice_canCancel_2_ok : OkD Tryz.prog 177 D_slices_IndexFunc_Notice__impl_Notice_canCancel_2 := by
  intro xs r z ob h ho
  unfold D_slices_IndexFunc_Notice__impl_Notice_canCancel_2 at h
  split at h
  · simp only [Option.some.injEq, Prod.mk.injEq] at h
    obtain ⟨rfl, rfl, rfl⟩ := h
    obtain ⟨h0, qy1, qf179_2, qkf179_2, _⟩ := ho
    exact Den.sim (N_slices_IndexFunc_Notice__impl_Notice_canCancel_2.den _ _ ) (simOL_cons (wL_sim h0).1 <| simOL_cons (by subst qf179_2 qkf179_2; rw [← qy1]; exact simO_refl _) <| trivial) (noIdL_cons (wL_sim h0).2 <| noIdL_cons (by rw [qy1]; rfl) <| rfl) rfl
  · cases h
end Go.Ab

namespace Go.Ab
open Go Go.Proofs
def slices_ContainsFunc_Notice__impl_Notice_canCancel_2 (a0 : (List Notice)) (a1 : Notice) : Bool :=
  decide (0 ≤ (slices_IndexFunc_Notice__impl_Notice_canCancel_2 a0 a1))
namespace N_slices_ContainsFunc_Notice__impl_Notice_canCancel_2
theorem DD : DOk Tryz.prog (Go.Ab.DD [(177, dP D_slices_IndexFunc_Notice__impl_Notice_canCancel_2)]) := DD_cons D_slices_IndexFunc_Notice__impl_Notice_canCancel_2_ok.e <| DD_nil _
theorem dn : type_of% (@D_slices_IndexFunc_Notice__impl_Notice_canCancel_2.eq_1) := by and_intros <;> intros <;> rfl
theorem den (a0 : (List Notice)) (a1 : Notice)  : Den Tryz.prog 140 [encL 20 eNotice a0, .fn 179 0 [.ep (eNotice a1)]] (.bool (slices_ContainsFunc_Notice__impl_Notice_canCancel_2 a0 a1)) := by
  generalize hR : slices_ContainsFunc_Notice__impl_Notice_canCancel_2 a0 a1 = r
  unfold slices_ContainsFunc_Notice__impl_Notice_canCancel_2 at hR
  refine di Tryz.func140 Tryz.ntmps140 Tryz.results140 ?_
  intro c hL hc hk
  obtain ⟨hL0, hL1, _⟩ := hL
  have hw0 : a0.length < 9223372036854775808 := Nat.lt_succ_of_le (lens_encL hL0).1
  have hw1 : ∀ v ∈ a0, bwNotice v := fun v hv => Notice_lens v ((lens_encL hL0).2 v hv)
  have hw2 : bwNotice a1 := Notice_lens a1 hL1.1
  clear hL0 hL1
  simp only [pars, Nat.zero_add]
  iterate 2 refine rS ?_
  refine AWP.ret ?_
  subst hR
  exact es
end N_slices_ContainsFunc_Notice__impl_Notice_canCancel_2
def D_slices_ContainsFunc_Notice__impl_Notice_canCancel_2 : DF
  | [x0, (.fn f179_2 kf179_2 [y1])] => some (.bool (slices_ContainsFunc_Notice__impl_Notice_canCancel_2 (rdL dNotice x0) (rdP dNotice y1)), false, [wL 20 eNotice dNotice x0, y1 = .ep (eNotice (rdP dNotice y1)), f179_2 = 179, kf179_2 = 0])
  | _ => none
theorem D_slices_ContainsFunc_Notice__impl_Notice_canCancel_2_ok : OkD Tryz.prog 140 D_slices_ContainsFunc_Notice__impl_Notice_canCancel_2 := by
  intro xs r z ob h ho
  unfold D_slices_ContainsFunc_Notice__impl_Notice_canCancel_2 at h
  split at h
  · simp only [Option.some.injEq, Prod.mk.injEq] at h
    obtain ⟨rfl, rfl, rfl⟩ := h
    obtain ⟨h0, qy1, qf179_2, qkf179_2, _⟩ := ho
    exact Den.sim (N_slices_ContainsFunc_Notice__impl_Notice_canCancel_2.den _ _ ) (simOL_cons (wL_sim h0).1 <| simOL_cons (by subst qf179_2 qkf179_2; rw [← qy1]; exact simO_refl _) <| trivial) (noIdL_cons (wL_sim h0).2 <| noIdL_cons (by rw [qy1]; rfl) <| rfl) rfl
  · cases h
end Go.Ab

namespace Go.Ab
open Go Go.Proofs
def impl_Notice_canCancel (a0 : Notice) (a1 : (List Notice)) : Bool :=
  (bif (decide ((slices_IndexFunc_Notice__impl_Notice_canCancel_1 a1 a0) < 0) || (((a1.getD (((slices_IndexFunc_Notice__impl_Notice_canCancel_1 a1 a0)).toNat) default).Kind) == 4)) then false else (!(slices_ContainsFunc_Notice__impl_Notice_canCancel_2 a1 a0)))
namespace N125
theorem DD : DOk Tryz.prog (Go.Ab.DD [(140, dP D_slices_ContainsFunc_Notice__impl_Notice_canCancel_2), (177, dP D_slices_IndexFunc_Notice__impl_Notice_canCancel_1)]) := DD_cons D_slices_ContainsFunc_Notice__impl_Notice_canCancel_2_ok.e <| DD_cons D_slices_IndexFunc_Notice__impl_Notice_canCancel_1_ok.e <| DD_nil _
theorem dn : type_of% (And.intro @D_slices_ContainsFunc_Notice__impl_Notice_canCancel_2.eq_1 <| @D_slices_IndexFunc_Notice__impl_Notice_canCancel_1.eq_1) := by and_intros <;> intros <;> rfl
theorem gr {p : Prop} (h : p := by (grind [slices_IndexFunc_Notice__impl_Notice_canCancel_1_lt]); first | done | fail) : p := h
theorem o0 {p : Prop} (h : p := by (first | (intro h; simp at h; omega)); first | done | fail) : p := h
theorem den (a0 : Notice) (a1 : (List Notice))  : Den Tryz.prog 125 [.agg (eNotice a0), encL 20 eNotice a1] (.bool (impl_Notice_canCancel a0 a1)) := by
  generalize hR : impl_Notice_canCancel a0 a1 = r
  unfold impl_Notice_canCancel at hR
  refine di Tryz.func125 Tryz.ntmps125 Tryz.results125 ?_
  intro c hL hc hk
  obtain ⟨hL0, hL1, _⟩ := hL
  have hw0 : bwNotice a0 := Notice_lens a0 hL0
  have hw1 : a1.length < 9223372036854775808 := Nat.lt_succ_of_le (lens_encL hL1).1
  have hw2 : ∀ v ∈ a1, bwNotice v := fun v hv => Notice_lens v ((lens_encL hL1).2 v hv)
  clear hL0 hL1
  simp only [pars, Nat.zero_add]
  have hix := slices_IndexFunc_Notice__impl_Notice_canCancel_1_lt a1 a0
  iterate 3 refine rS ?_
  refine AWP.cond rfl (fun hb => ?_) (fun hb => ?_)
  · replace hR := ct hR
    refine rS ?_
    refine AWP.ret ?_
    subst hR
    exact es
  · replace hR := cf hR
    refine rS ?_
    refine AWP.ret ?_
    subst hR
    exact es
end N125
def D_impl_Notice_canCancel : DF
  | [x0, x1] => some (.bool (impl_Notice_canCancel (rdG dNotice x0) (rdL dNotice x1)), false, [wG eNotice dNotice x0, wL 20 eNotice dNotice x1])
  | _ => none
theorem D_impl_Notice_canCancel_ok : OkD Tryz.prog 125 D_impl_Notice_canCancel := by unfold D_impl_Notice_canCancel; exact dk N125.den
end Go.Ab

namespace Go.Ab
open Go Go.Proofs
def impl_inForce_1 (a0 : Notice) (a1 : Notice) (a2 : Int) : Bool :=
  (((a0.Kind == 4) && (a0.Target == a1.Number)) && decide (a0.Day ≤ a2))
namespace N141
theorem DD : DOk Tryz.prog (Go.Ab.DD []) := DD_nil _
theorem den (a0 : Notice) (a1 : Notice) (a2 : Int)  : Den Tryz.prog 141 [.agg (eNotice a0), .ep (eNotice a1), .ep (eIi64 a2)] (.bool (impl_inForce_1 a0 a1 a2)) := by
  generalize hR : impl_inForce_1 a0 a1 a2 = r
  unfold impl_inForce_1 at hR
  refine di Tryz.func141 Tryz.ntmps141 Tryz.results141 ?_
  intro c hL hc hk
  obtain ⟨hL0, hL1, hL2, _⟩ := hL
  have hw0 : bwNotice a0 := Notice_lens a0 hL0
  have hw1 : bwNotice a1 := Notice_lens a1 hL1
  clear hL0 hL1 hL2
  simp only [pars, Nat.zero_add]
  iterate 2 refine rS ?_
  refine AWP.ret ?_
  subst hR
  exact es
end N141
def D_impl_inForce_1 : DF
  | [x0, x1, x2] => some (.bool (impl_inForce_1 (rdG dNotice x0) (rdP dNotice x1) (rdP dIi64 x2)), false, [wG eNotice dNotice x0, wP eNotice dNotice x1, wP eIi64 dIi64 x2])
  | _ => none
theorem D_impl_inForce_1_ok : OkD Tryz.prog 141 D_impl_inForce_1 := by unfold D_impl_inForce_1; exact dk N141.den
end Go.Ab

namespace Go.Ab
open Go Go.Proofs
def slices_IndexFunc_Notice__impl_inForce_1_b1 (a0 : (List Notice)) (a1 : Notice) (a2 : Int) (i1 : Nat) (s1 : Unit) : Except (Int) (Unit) :=
  (bif (impl_inForce_1 (a0.getD i1 default) a1 a2) then .error (i1 : Int) else .ok ())
def slices_IndexFunc_Notice__impl_inForce_1 (a0 : (List Notice)) (a1 : Notice) (a2 : Int) : Int :=
  (match loopR (slices_IndexFunc_Notice__impl_inForce_1_b1 a0 a1 a2) (a0.length - 0) 0 () with | .error e => e | .ok s1 => (-1))
namespace N_slices_IndexFunc_Notice__impl_inForce_1
theorem DD : DOk Tryz.prog (Go.Ab.DD [(141, dP D_impl_inForce_1)]) := DD_cons D_impl_inForce_1_ok.e <| DD_nil _
theorem dn : type_of% (@D_impl_inForce_1.eq_1) := by and_intros <;> intros <;> rfl
theorem den (a0 : (List Notice)) (a1 : Notice) (a2 : Int)  : Den Tryz.prog 177 [encL 20 eNotice a0, .fn 141 0 [.ep (eNotice a1), .ep (eIi64 a2)]] (.int .i64 (slices_IndexFunc_Notice__impl_inForce_1 a0 a1 a2)) := by
  generalize hR : slices_IndexFunc_Notice__impl_inForce_1 a0 a1 a2 = r
  unfold slices_IndexFunc_Notice__impl_inForce_1 at hR
  refine di Tryz.func177 Tryz.ntmps177 Tryz.results177 ?_
  intro c hL hc hk
  obtain ⟨hL0, hL1, _⟩ := hL
  have hw0 : a0.length < 9223372036854775808 := Nat.lt_succ_of_le (lens_encL hL0).1
  have hw1 : ∀ v ∈ a0, bwNotice v := fun v hv => Notice_lens v ((lens_encL hL0).2 v hv)
  have hw2 : bwNotice a1 := Notice_lens a1 hL1.1
  clear hL0 hL1
  simp only [pars, Nat.zero_add]
  iterate 2 refine rS ?_
  refine AWP.block ?_
  generalize hz1 : loopR (slices_IndexFunc_Notice__impl_inForce_1_b1 a0 a1 a2) (a0.length - 0) 0 () = z1 at hR
  refine AWP.range (slices_IndexFunc_Notice__impl_inForce_1_b1 a0 a1 a2) (fun i1 s1 => ⟨[(0, encL 20 eNotice a0), (1, .fn 141 0 [.ep (eNotice a1), .ep (eIi64 a2)]), (7, .int .i64 (a0.length : Int)), (8, .int .i64 (i1 : Int))], []⟩) (fun i1 s1 => True) (a0.length) 0 () [] hz1 ot wt sm ?_
  clear hz1
  intro i1 s1 hi1 hW1 hz1
  refine rS ?_
  refine AWP.seq ?_
  refine AWP.cond rfl (fun hb => ?_) (fun hb => ?_)
  · have hlt1 : i1 < a0.length := ot
    rw [loopR_lt hlt1] at hz1; simp only [slices_IndexFunc_Notice__impl_inForce_1_b1] at hz1
    iterate 2 refine rS ?_
    refine AWP.cond rfl (fun hb => ?_) (fun hb => ?_)
    · simp only [hb, cond_true] at hz1
      refine rS ?_
      refine AWP.ret ?_
      subst hz1
      dsimp only at hR
      subst hR
      exact es
    · simp only [hb, cond_false] at hz1
      refine rS ?_
      exact ⟨_, [], hlt1, wt, hz1, sm⟩
  · obtain rfl : i1 = a0.length := ot
    rw [loopR_ge (Nat.le_refl _)] at hz1; subst hz1; dsimp only at hR
    refine AWP.exit ?_; refine exitTo_here ?_
    refine rS ?_
    refine AWP.ret ?_
    subst hR
    exact es
end N_slices_IndexFunc_Notice__impl_inForce_1
def D_slices_IndexFunc_Notice__impl_inForce_1 : DF
  | [x0, (.fn f141_3 kf141_3 [y1, y2])] => some (.int .i64 (slices_IndexFunc_Notice__impl_inForce_1 (rdL dNotice x0) (rdP dNotice y1) (rdP dIi64 y2)), false, [wL 20 eNotice dNotice x0, y1 = .ep (eNotice (rdP dNotice y1)), y2 = .ep (eIi64 (rdP dIi64 y2)), f141_3 = 141, kf141_3 = 0])
  | _ => none
theorem D_slices_IndexFunc_Notice__impl_inForce_1_ok : OkD Tryz.prog 177 D_slices_IndexFunc_Notice__impl_inForce_1 := by
  intro xs r z ob h ho
  unfold D_slices_IndexFunc_Notice__impl_inForce_1 at h
  split at h
  · simp only [Option.some.injEq, Prod.mk.injEq] at h
    obtain ⟨rfl, rfl, rfl⟩ := h
    obtain ⟨h0, qy1, qy2, qf141_3, qkf141_3, _⟩ := ho
    exact Den.sim (N_slices_IndexFunc_Notice__impl_inForce_1.den _ _ _ ) (simOL_cons (wL_sim h0).1 <| simOL_cons (by subst qf141_3 qkf141_3; rw [← qy1, ← qy2]; exact simO_refl _) <| trivial) (noIdL_cons (wL_sim h0).2 <| noIdL_cons (by rw [qy1, qy2]; rfl) <| rfl) rfl
  · cases h
end Go.Ab

namespace Go.Ab
open Go Go.Proofs
def slices_ContainsFunc_Notice__impl_inForce_1 (a0 : (List Notice)) (a1 : Notice) (a2 : Int) : Bool :=
  decide (0 ≤ (slices_IndexFunc_Notice__impl_inForce_1 a0 a1 a2))
namespace N_slices_ContainsFunc_Notice__impl_inForce_1
theorem DD : DOk Tryz.prog (Go.Ab.DD [(177, dP D_slices_IndexFunc_Notice__impl_inForce_1)]) := DD_cons D_slices_IndexFunc_Notice__impl_inForce_1_ok.e <| DD_nil _
theorem dn : type_of% (@D_slices_IndexFunc_Notice__impl_inForce_1.eq_1) := by and_intros <;> intros <;> rfl
theorem den (a0 : (List Notice)) (a1 : Notice) (a2 : Int)  : Den Tryz.prog 140 [encL 20 eNotice a0, .fn 141 0 [.ep (eNotice a1), .ep (eIi64 a2)]] (.bool (slices_ContainsFunc_Notice__impl_inForce_1 a0 a1 a2)) := by
  generalize hR : slices_ContainsFunc_Notice__impl_inForce_1 a0 a1 a2 = r
  unfold slices_ContainsFunc_Notice__impl_inForce_1 at hR
  refine di Tryz.func140 Tryz.ntmps140 Tryz.results140 ?_
  intro c hL hc hk
  obtain ⟨hL0, hL1, _⟩ := hL
  have hw0 : a0.length < 9223372036854775808 := Nat.lt_succ_of_le (lens_encL hL0).1
  have hw1 : ∀ v ∈ a0, bwNotice v := fun v hv => Notice_lens v ((lens_encL hL0).2 v hv)
  have hw2 : bwNotice a1 := Notice_lens a1 hL1.1
  clear hL0 hL1
  simp only [pars, Nat.zero_add]
  iterate 2 refine rS ?_
  refine AWP.ret ?_
  subst hR
  exact es
end N_slices_ContainsFunc_Notice__impl_inForce_1
def D_slices_ContainsFunc_Notice__impl_inForce_1 : DF
  | [x0, (.fn f141_3 kf141_3 [y1, y2])] => some (.bool (slices_ContainsFunc_Notice__impl_inForce_1 (rdL dNotice x0) (rdP dNotice y1) (rdP dIi64 y2)), false, [wL 20 eNotice dNotice x0, y1 = .ep (eNotice (rdP dNotice y1)), y2 = .ep (eIi64 (rdP dIi64 y2)), f141_3 = 141, kf141_3 = 0])
  | _ => none
theorem D_slices_ContainsFunc_Notice__impl_inForce_1_ok : OkD Tryz.prog 140 D_slices_ContainsFunc_Notice__impl_inForce_1 := by
  intro xs r z ob h ho
  unfold D_slices_ContainsFunc_Notice__impl_inForce_1 at h
  split at h
  · simp only [Option.some.injEq, Prod.mk.injEq] at h
    obtain ⟨rfl, rfl, rfl⟩ := h
    obtain ⟨h0, qy1, qy2, qf141_3, qkf141_3, _⟩ := ho
    exact Den.sim (N_slices_ContainsFunc_Notice__impl_inForce_1.den _ _ _ ) (simOL_cons (wL_sim h0).1 <| simOL_cons (by subst qf141_3 qkf141_3; rw [← qy1, ← qy2]; exact simO_refl _) <| trivial) (noIdL_cons (wL_sim h0).2 <| noIdL_cons (by rw [qy1, qy2]; rfl) <| rfl) rfl
  · cases h
end Go.Ab

namespace Go.Ab
open Go Go.Proofs
def impl_inForce_b1 (a0 : (List Notice)) (a1 : Int) (i1 : Nat) (s1 : List Notice) : Except ((List Notice)) (List Notice) :=
  (bif (((((a0.getD i1 default).Kind) != 4) && decide (((a0.getD i1 default).Day) ≤ a1)) && (!(slices_ContainsFunc_Notice__impl_inForce_1 a0 (a0.getD i1 default) a1))) then .ok (s1 ++ [(a0.getD i1 default)]) else .ok s1)
def impl_inForce (a0 : (List Notice)) (a1 : Int) : (List Notice) :=
  (match loopR (impl_inForce_b1 a0 a1) (a0.length - 0) 0 ([] : List Notice) with | .error e => e | .ok s1 => s1)
namespace N74
theorem DD : DOk Tryz.prog (Go.Ab.DD [(140, dP D_slices_ContainsFunc_Notice__impl_inForce_1)]) := DD_cons D_slices_ContainsFunc_Notice__impl_inForce_1_ok.e <| DD_nil _
theorem dn : type_of% (@D_slices_ContainsFunc_Notice__impl_inForce_1.eq_1) := by and_intros <;> intros <;> rfl
theorem o2 {p : Prop} (h : p := by (first | (and_intros <;> first | rfl | decide | (rw [IntKind.wrap_i64]; omega) | (simp only [List.length_append, List.length_singleton]; (first | done | fail)) | (intro j hj; by_cases hji : j < s1.length; (focus (simp only [app_lt hji, blt_t hji, cond_true]; first | (first | done | fail) | rfl | (and_intros <;> rfl))); (simp only [app_eq hji hj, blt_f hji, cond_false]; first | (first | done | fail) | rfl | (and_intros <;> rfl))))); first | done | fail) : p := h
set_option maxHeartbeats 2000000 in
set_option maxRecDepth 20000 in
theorem den (a0 : (List Notice)) (a1 : Int) (hb0 : a0.length < 1099511627776) (hb1 : ∀ v ∈ a0, bdNotice v) (hp0 : a0.length ≤ 1073741824) : Den Tryz.prog 74 [encL 20 eNotice a0, .int .i64 a1] (ownL 90 20 eNotice (impl_inForce a0 a1)) := by
  generalize hR : impl_inForce a0 a1 = r
  unfold impl_inForce at hR
  refine di Tryz.func74 Tryz.ntmps74 Tryz.results74 ?_
  intro c hL hc hk
  obtain ⟨hL0, hL1, _⟩ := hL
  have hw0 : a0.length < 9223372036854775808 := Nat.lt_succ_of_le (lens_encL hL0).1
  have hw1 : ∀ v ∈ a0, bwNotice v := fun v hv => Notice_lens v ((lens_encL hL0).2 v hv)
  clear hL0 hL1
  simp only [pars, Nat.zero_add]
  iterate 3 refine rS ?_
  refine AWP.block ?_
  generalize hz1 : loopR (impl_inForce_b1 a0 a1) (a0.length - 0) 0 ([] : List Notice) = z1 at hR
  refine AWP.range (impl_inForce_b1 a0 a1) (fun i1 s1 => ⟨[(0, encL 20 eNotice a0), (3, .ptr 0 0), (5, .ref 1 20 0 s1.length), (10, encL 20 eNotice a0), (11, .int .i64 (a0.length : Int)), (12, .int .i64 (i1 : Int))], [.box [.int .i64 a1], .arr 90 20 s1.length (fun j => eNotice (s1.getD j default))]⟩) (fun i1 s1 => s1.length ≤ ([] : List Notice).length + 1 * i1) (a0.length) 0 ([] : List Notice) [0, 1] hz1 ot wt sm ?_
  clear hz1
  intro i1 s1 hi1 hW1 hz1
  refine rS ?_
  refine AWP.seq ?_
  refine AWP.cond rfl (fun hb => ?_) (fun hb => ?_)
  · have hlt1 : i1 < a0.length := ot
    rw [loopR_lt hlt1] at hz1; simp only [impl_inForce_b1] at hz1
    iterate 3 refine rS ?_
    refine AWP.cond rfl (fun hb => ?_) (fun hb => ?_)
    · simp only [hb, cond_true] at hz1
      iterate 2 refine rS ?_
      exact ⟨_, [0, 4], hlt1, wt, hz1, sm⟩
    · simp only [hb, cond_false] at hz1
      refine rS ?_
      exact ⟨_, [0, 1], hlt1, wt, hz1, sm⟩
  · obtain rfl : i1 = a0.length := ot
    rw [loopR_ge (Nat.le_refl _)] at hz1; subst hz1; dsimp only at hR
    refine AWP.exit ?_; refine exitTo_here ?_
    refine rS ?_
    refine AWP.ret ?_
    subst hR
    exact es
end N74
def D_impl_inForce : DF
  | [x0, x1] => some (ownL 90 20 eNotice (impl_inForce (rdL dNotice x0) (rdI x1)), false, [wL 20 eNotice dNotice x0, wI .i64 x1, (rdL dNotice x0).length < 1099511627776, ∀ v ∈ (rdL dNotice x0), bdNotice v, (rdL dNotice x0).length ≤ 1073741824])
  | _ => none
def Dz_impl_inForce : DF
  | [x0, x1] => some (ownL 90 20 eNotice (impl_inForce (rdL dNotice x0) (rdI x1)), true, [wL 20 eNotice dNotice x0, wI .i64 x1, (rdL dNotice x0).length < 1099511627776, ∀ v ∈ (rdL dNotice x0), bdNotice v, (rdL dNotice x0).length ≤ 1073741824])
  | _ => none
theorem D_impl_inForce_ok : OkD Tryz.prog 74 D_impl_inForce := by unfold D_impl_inForce; exact dk N74.den
theorem Dz_impl_inForce_ok : OkD Tryz.prog 74 Dz_impl_inForce := by unfold Dz_impl_inForce; exact dk N74.den
end Go.Ab

namespace Go.Ab
open Go Go.Proofs
theorem inForce_inv (P : Notice → Prop) (a : List Notice) (d : Int) (hP : ∀ v ∈ a, P v) : (impl_inForce a d).length ≤ a.length ∧ ∀ v ∈ impl_inForce a d, P v := by
  unfold impl_inForce
  obtain ⟨t, h1, h2⟩ := loopR_total (b := impl_inForce_b1 a d) (fun j s => s.length ≤ j ∧ ∀ v ∈ s, P v) (k := a.length - 0) (i := 0) (s := []) ⟨by simp, fun v hv => by simp at hv⟩ (by
    intro j u _ hj h
    simp only [impl_inForce_b1]
    cases (((((a.getD j default).Kind) != 4) && decide (((a.getD j default).Day) ≤ d)) && (!(slices_ContainsFunc_Notice__impl_inForce_1 a (a.getD j default) d))) with
    | true =>
      refine ⟨_, rfl, by simp; exact h.1, fun v hv => ?_⟩
      rcases List.mem_append.1 hv with hv | hv
      · exact h.2 v hv
      · have : v = a.getD j default := by simpa using hv
        subst this
        rw [List.getD_eq_getElem?_getD, List.getElem?_eq_getElem (show j < a.length by omega)]
        exact hP _ (List.getElem_mem (by omega))
    | false => exact ⟨_, rfl, by omega, h.2⟩)
  rw [h1]
  simpa using h2
theorem inForce_len (a : List Notice) (d : Int) : (impl_inForce a d).length ≤ a.length := (inForce_inv (fun _ => True) a d (fun _ _ => trivial)).1
end Go.Ab
