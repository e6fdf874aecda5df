/- A part of a proof: walks of functions and lemmas of our own. No conditions. -/
import Derived.Test.YtpakbdamggpneaaGreatDoorTAl
import Derived.Test.YtpakbdamggpneaaGreatDoorTAm
import Derived.Test.YtpakbdamggpneaaGreatDoorTAu
import Derived.Test.YtpakbdamggpneaaGreatDoorTAr
import Derived.Test.YtpakbdamggpneaaGreatDoorTAt
import Derived.Test.YtpakbdamggpneaaGreatDoorTAj
import Derived.Test.YtpakbdamggpneaaGreatDoorRows
set_option linter.unusedSectionVars false
set_option linter.unusedVariables false
set_option linter.unusedSimpArgs false
set_option maxHeartbeats 1000000
namespace Go.Ab
open Go Go.Proofs
def laws_eqInt64S_b1 (a0 : (List Int)) (a1 : (List Int)) (i1 : Nat) (s1 : Unit) : Except (Bool) (Unit) :=
  (bif ((a0.getD i1 default) != (a1.getD i1 default)) then .error false else .ok ())
def laws_eqInt64S (a0 : (List Int)) (a1 : (List Int)) : Bool :=
  (bif ((a0.length : Int) != (a1.length : Int)) then false else (match loopR (laws_eqInt64S_b1 a0 a1) (a0.length - 0) 0 () with | .error e => e | .ok s1 => true))
namespace N51
theorem DD : DOk Tryz.prog (Go.Ab.DD []) := DD_nil _
theorem den (a0 : (List Int)) (a1 : (List Int))  : Den Tryz.prog 51 [encL 1 eIi64 a0, encL 1 eIi64 a1] (.bool (laws_eqInt64S a0 a1)) := by
  generalize hR : laws_eqInt64S a0 a1 = r
  unfold laws_eqInt64S at hR
  refine di Tryz.func51 Tryz.ntmps51 Tryz.results51 ?_
  intro c hL hc hk
  obtain ⟨hL0, hL1, _⟩ := hL
  have hw0 : a0.length < 9223372036854775808 := Nat.lt_succ_of_le (lens_encL hL0).1
  have hw1 : a1.length < 9223372036854775808 := Nat.lt_succ_of_le (lens_encL hL1).1
  clear hL0 hL1
  simp only [pars, Nat.zero_add]
  iterate 2 refine rS ?_
  refine AWP.cond rfl (fun hb => ?_) (fun hb => ?_)
  · replace hR := ct hR
    refine rS ?_
    refine AWP.ret ?_
    subst hR
    exact es
  · replace hR := cf hR
    refine rS ?_
    refine AWP.block ?_
    generalize hz1 : loopR (laws_eqInt64S_b1 a0 a1) (a0.length - 0) 0 () = z1 at hR
    refine AWP.range (laws_eqInt64S_b1 a0 a1) (fun i1 s1 => ⟨[(0, encL 1 eIi64 a0), (1, encL 1 eIi64 a1), (5, .int .i64 (i1 : Int))], []⟩) (fun i1 s1 => True) (a0.length) 0 () [] hz1 ot wt sm ?_
    clear hz1
    intro i1 s1 hi1 hW1 hz1
    refine rS ?_
    refine AWP.cond rfl (fun hb => ?_) (fun hb => ?_)
    · have hlt1 : i1 < a0.length := ot
      rw [loopR_lt hlt1] at hz1; simp only [laws_eqInt64S_b1] at hz1
      refine rD 8 ?_
      refine AWP.cond rfl (fun hb => ?_) (fun hb => ?_)
      · simp only [hb, cond_true] at hz1
        refine rS ?_
        refine AWP.ret ?_
        subst hz1
        dsimp only at hR
        subst hR
        exact es
      · simp only [hb, cond_false] at hz1
        refine rS ?_
        exact ⟨_, [], hlt1, wt, hz1, sm⟩
    · obtain rfl : i1 = a0.length := ot
      rw [loopR_ge (Nat.le_refl _)] at hz1; subst hz1; dsimp only at hR
      refine AWP.exit ?_; refine exitTo_here ?_
      refine rS ?_
      refine AWP.ret ?_
      subst hR
      exact es
end N51
def D_laws_eqInt64S : DF
  | [x0, x1] => some (.bool (laws_eqInt64S (rdL dIi64 x0) (rdL dIi64 x1)), false, [wL 1 eIi64 dIi64 x0, wL 1 eIi64 dIi64 x1])
  | _ => none
theorem D_laws_eqInt64S_ok : OkD Tryz.prog 51 D_laws_eqInt64S := by unfold D_laws_eqInt64S; exact dk N51.den
end Go.Ab

namespace Go.Ab
open Go Go.Proofs
def laws_eqCharacter (a0 : Character) (a1 : Character) : Bool :=
  (bif (a0.Kind != a1.Kind) then false else (bif (!(laws_eqInt64S a0.Group a1.Group)) then false else (bif (a0.Letter != a1.Letter) then false else (bif (a0.Colors != a1.Colors) then false else (bif (a0.Period != a1.Period) then false else true)))))
namespace N21
theorem DD : DOk Tryz.prog (Go.Ab.DD [(51, dP D_laws_eqInt64S)]) := DD_cons D_laws_eqInt64S_ok.e <| DD_nil _
theorem dn : type_of% (@D_laws_eqInt64S.eq_1) := by and_intros <;> intros <;> rfl
theorem den (a0 : Character) (a1 : Character)  : Den Tryz.prog 21 [.agg (eCharacter a0), .agg (eCharacter a1)] (.bool (laws_eqCharacter a0 a1)) := by
  generalize hR : laws_eqCharacter a0 a1 = r
  unfold laws_eqCharacter at hR
  refine di Tryz.func21 Tryz.ntmps21 Tryz.results21 ?_
  intro c hL hc hk
  obtain ⟨hL0, hL1, _⟩ := hL
  have hw0 : bwCharacter a0 := Character_lens a0 hL0
  have hw1 : bwCharacter a1 := Character_lens a1 hL1
  clear hL0 hL1
  simp only [pars, Nat.zero_add]
  iterate 2 refine rS ?_
  refine AWP.cond rfl (fun hb => ?_) (fun hb => ?_)
  · replace hR := ct hR
    refine rS ?_
    refine AWP.ret ?_
    subst hR
    exact es
  · replace hR := cf hR
    refine rS ?_
    refine AWP.cond rfl (fun hb => ?_) (fun hb => ?_)
    · replace hR := ct hR
      refine rS ?_
      refine AWP.ret ?_
      subst hR
      exact es
    · replace hR := cf hR
      refine rS ?_
      refine AWP.cond rfl (fun hb => ?_) (fun hb => ?_)
      · replace hR := ct hR
        refine rS ?_
        refine AWP.ret ?_
        subst hR
        exact es
      · replace hR := cf hR
        refine rS ?_
        refine AWP.cond rfl (fun hb => ?_) (fun hb => ?_)
        · replace hR := ct hR
          refine rS ?_
          refine AWP.ret ?_
          subst hR
          exact es
        · replace hR := cf hR
          refine rS ?_
          refine AWP.cond rfl (fun hb => ?_) (fun hb => ?_)
          · replace hR := ct hR
            refine rS ?_
            refine AWP.ret ?_
            subst hR
            exact es
          · replace hR := cf hR
            refine rS ?_
            refine AWP.ret ?_
            subst hR
            exact es
end N21
def D_laws_eqCharacter : DF
  | [x0, x1] => some (.bool (laws_eqCharacter (rdG dCharacter x0) (rdG dCharacter x1)), false, [wG eCharacter dCharacter x0, wG eCharacter dCharacter x1])
  | _ => none
theorem D_laws_eqCharacter_ok : OkD Tryz.prog 21 D_laws_eqCharacter := by unfold D_laws_eqCharacter; exact dk N21.den
end Go.Ab

namespace Go.Ab
open Go Go.Proofs
def spec_l11Kind (a0 : Int) : Bool :=
  (spec_l00In a0 1 9)
namespace N54
theorem DD : DOk Tryz.prog (Go.Ab.DD [(98, dP D_spec_l00In)]) := DD_cons D_spec_l00In_ok.e <| DD_nil _
theorem dn : type_of% (@D_spec_l00In.eq_1) := by and_intros <;> intros <;> rfl
theorem ol : type_of% (@spec_l00In.eq_1) := @spec_l00In.eq_1
theorem den (a0 : Int)  : Den Tryz.prog 54 [.int .i64 a0] (.bool (spec_l11Kind a0)) := by
  generalize hR : spec_l11Kind a0 = r
  unfold spec_l11Kind at hR
  refine di Tryz.func54 Tryz.ntmps54 Tryz.results54 ?_
  intro c hL hc hk
  clear hL
  simp only [pars, Nat.zero_add]
  iterate 2 refine rS ?_
  refine AWP.ret ?_
  subst hR
  exact es
end N54
def D_spec_l11Kind : DF
  | [x0] => some (.bool (spec_l11Kind (rdI x0)), false, [wI .i64 x0])
  | _ => none
theorem D_spec_l11Kind_ok : OkD Tryz.prog 54 D_spec_l11Kind := by unfold D_spec_l11Kind; exact dk N54.den
end Go.Ab

namespace Go.Ab
open Go Go.Proofs
def spec_l11Light (a0 : Int) : Character :=
  { Kind := ((spec_l05Read (([[], [70, 108, 32, 82, 32, 52, 115], [70, 108, 32, 71, 32, 52, 115], [81, 32, 87], [81, 40, 51, 41, 32, 87, 32, 49, 48, 115], [81, 40, 54, 41, 43, 76, 70, 108, 32, 87, 32, 49, 53, 115], [81, 40, 57, 41, 32, 87, 32, 49, 53, 115], [70, 108, 40, 50, 41, 32, 87, 32, 53, 115], [76, 70, 108, 32, 87, 32, 49, 48, 115], [70, 108, 32, 89, 32, 53, 115]] : List (List UInt8)).getD ((a0).toNat) default)).1).Kind, Group := ((spec_l05Read (([[], [70, 108, 32, 82, 32, 52, 115], [70, 108, 32, 71, 32, 52, 115], [81, 32, 87], [81, 40, 51, 41, 32, 87, 32, 49, 48, 115], [81, 40, 54, 41, 43, 76, 70, 108, 32, 87, 32, 49, 53, 115], [81, 40, 57, 41, 32, 87, 32, 49, 53, 115], [70, 108, 40, 50, 41, 32, 87, 32, 53, 115], [76, 70, 108, 32, 87, 32, 49, 48, 115], [70, 108, 32, 89, 32, 53, 115]] : List (List UInt8)).getD ((a0).toNat) default)).1).Group, Letter := ((spec_l05Read (([[], [70, 108, 32, 82, 32, 52, 115], [70, 108, 32, 71, 32, 52, 115], [81, 32, 87], [81, 40, 51, 41, 32, 87, 32, 49, 48, 115], [81, 40, 54, 41, 43, 76, 70, 108, 32, 87, 32, 49, 53, 115], [81, 40, 57, 41, 32, 87, 32, 49, 53, 115], [70, 108, 40, 50, 41, 32, 87, 32, 53, 115], [76, 70, 108, 32, 87, 32, 49, 48, 115], [70, 108, 32, 89, 32, 53, 115]] : List (List UInt8)).getD ((a0).toNat) default)).1).Letter, Colors := ((spec_l05Read (([[], [70, 108, 32, 82, 32, 52, 115], [70, 108, 32, 71, 32, 52, 115], [81, 32, 87], [81, 40, 51, 41, 32, 87, 32, 49, 48, 115], [81, 40, 54, 41, 43, 76, 70, 108, 32, 87, 32, 49, 53, 115], [81, 40, 57, 41, 32, 87, 32, 49, 53, 115], [70, 108, 40, 50, 41, 32, 87, 32, 53, 115], [76, 70, 108, 32, 87, 32, 49, 48, 115], [70, 108, 32, 89, 32, 53, 115]] : List (List UInt8)).getD ((a0).toNat) default)).1).Colors, Period := ((spec_l05Read (([[], [70, 108, 32, 82, 32, 52, 115], [70, 108, 32, 71, 32, 52, 115], [81, 32, 87], [81, 40, 51, 41, 32, 87, 32, 49, 48, 115], [81, 40, 54, 41, 43, 76, 70, 108, 32, 87, 32, 49, 53, 115], [81, 40, 57, 41, 32, 87, 32, 49, 53, 115], [70, 108, 40, 50, 41, 32, 87, 32, 53, 115], [76, 70, 108, 32, 87, 32, 49, 48, 115], [70, 108, 32, 89, 32, 53, 115]] : List (List UInt8)).getD ((a0).toNat) default)).1).Period : Character }
namespace N55
theorem DD : DOk Tryz.prog (Go.Ab.DD [(44, dP D_spec_l05Read)]) := DD_cons D_spec_l05Read_ok.e <| DD_nil _
theorem dn : type_of% (@D_spec_l05Read.eq_1) := by and_intros <;> intros <;> rfl
theorem o0 {p : Prop} (h : p := by (first | (and_intros <;> first | omega | (simp only [List.length_cons, List.length_nil]; omega))); first | done | fail) : p := h
theorem lx {p : Prop} (h : p := by (exact lxx); first | done | fail) : p := h
theorem den (a0 : Int) (hp0 : 1 ≤ a0) (hp1 : a0 ≤ 9) : Den Tryz.prog 55 [.int .i64 a0] (.agg (eCharacterO (spec_l11Light a0))) := by
  generalize hR : spec_l11Light a0 = r
  unfold spec_l11Light at hR
  refine di Tryz.func55 Tryz.ntmps55 Tryz.results55 ?_
  intro c hL hc hk
  clear hL
  simp only [pars, Nat.zero_add]
  have hgl : (([[], [70, 108, 32, 82, 32, 52, 115], [70, 108, 32, 71, 32, 52, 115], [81, 32, 87], [81, 40, 51, 41, 32, 87, 32, 49, 48, 115], [81, 40, 54, 41, 43, 76, 70, 108, 32, 87, 32, 49, 53, 115], [81, 40, 57, 41, 32, 87, 32, 49, 53, 115], [70, 108, 40, 50, 41, 32, 87, 32, 53, 115], [76, 70, 108, 32, 87, 32, 49, 48, 115], [70, 108, 32, 89, 32, 53, 115]] : List (List UInt8)).getD a0.toNat default).length ≤ 100 := getD_len100 _ (by decide) _
  iterate 4 refine rS ?_
  refine AWP.ret ?_
  subst hR
  exact es
end N55
def D_spec_l11Light : DF
  | [x0] => some (.agg (eCharacterO (spec_l11Light (rdI x0))), false, [wI .i64 x0, 1 ≤ (rdI x0), (rdI x0) ≤ 9])
  | _ => none
def Dz_spec_l11Light : DF
  | [x0] => some (.agg (eCharacterO (spec_l11Light (rdI x0))), true, [wI .i64 x0, 1 ≤ (rdI x0), (rdI x0) ≤ 9])
  | _ => none
theorem D_spec_l11Light_ok : OkD Tryz.prog 55 D_spec_l11Light := by unfold D_spec_l11Light; exact dk N55.den
theorem Dz_spec_l11Light_ok : OkD Tryz.prog 55 Dz_spec_l11Light := by unfold Dz_spec_l11Light; exact dk N55.den
end Go.Ab

namespace Go.Ab
open Go Go.Proofs
def spec_StandardLight (a0 : Int) : (Character × Int) :=
  (bif (!(spec_l11Kind a0)) then ({ Kind := 0, Group := [], Letter := [], Colors := [], Period := 0 : Character }, 2) else ({ Kind := (spec_l11Light a0).Kind, Group := (spec_l11Light a0).Group, Letter := (spec_l11Light a0).Letter, Colors := (spec_l11Light a0).Colors, Period := (spec_l11Light a0).Period : Character }, 0))
namespace N24
theorem DD : DOk Tryz.prog (Go.Ab.DD [(54, dP D_spec_l11Kind), (55, dP D_spec_l11Light)]) := DD_cons D_spec_l11Kind_ok.e <| DD_cons D_spec_l11Light_ok.e <| DD_nil _
theorem dn : type_of% (And.intro @D_spec_l11Kind.eq_1 <| @D_spec_l11Light.eq_1) := by and_intros <;> intros <;> rfl
theorem o0 {p : Prop} (h : p := by (first | (have h9 : 1 ≤ a0 ∧ a0 ≤ 9 := (by simpa [spec_l11Kind, spec_l00In] using hb); and_intros <;> omega)); first | done | fail) : p := h
theorem den (a0 : Int)  : Den Tryz.prog 24 [.int .i64 a0] (.tup [.agg (eCharacterO ((spec_StandardLight a0).1)), .int .i64 ((spec_StandardLight a0).2)]) := by
  generalize hR : spec_StandardLight a0 = r
  unfold spec_StandardLight at hR
  refine di Tryz.func24 Tryz.ntmps24 Tryz.results24 ?_
  intro c hL hc hk
  clear hL
  simp only [pars, Nat.zero_add]
  iterate 2 refine rS ?_
  refine AWP.cond rfl (fun hb => ?_) (fun hb => ?_)
  · replace hR := ct hR
    refine rS ?_
    refine AWP.ret ?_
    subst hR
    exact es
  · replace hR := cf hR
    refine rS ?_
    refine AWP.ret ?_
    subst hR
    exact es
end N24
def D_spec_StandardLight : DF
  | [x0] => some (.tup [.agg (eCharacterO ((spec_StandardLight (rdI x0)).1)), .int .i64 ((spec_StandardLight (rdI x0)).2)], false, [wI .i64 x0])
  | _ => none
def Dz_spec_StandardLight : DF
  | [x0] => some (.tup [.agg (eCharacterO ((spec_StandardLight (rdI x0)).1)), .int .i64 ((spec_StandardLight (rdI x0)).2)], true, [wI .i64 x0])
  | _ => none
theorem D_spec_StandardLight_ok : OkD Tryz.prog 24 D_spec_StandardLight := by unfold D_spec_StandardLight; exact dk N24.den
theorem Dz_spec_StandardLight_ok : OkD Tryz.prog 24 Dz_spec_StandardLight := by unfold Dz_spec_StandardLight; exact dk N24.den
end Go.Ab

namespace Go.Ab
open Go Go.Proofs
theorem eqInt_refl (a : List Int) : laws_eqInt64S a a = true := by
  unfold laws_eqInt64S
  have h1 : ((a.length : Int) != (a.length : Int)) = false := by simp
  rw [h1]
  simp only [cond_false]
  rw [loopR_any (b := laws_eqInt64S_b1 a a) (fun j => false) false (fun j u _ _ => by
    simp only [laws_eqInt64S_b1, bne_self_eq_false])]
  have ha : ∀ l : List Nat, (l.any fun j => false) = false := fun l => by induction l <;> simp_all
  rw [ha]
  rfl
theorem eqChr_refl (c : Character) : laws_eqCharacter c c = true := by
  unfold laws_eqCharacter
  simp only [eqInt_refl, bne_self_eq_false, cond_false, Bool.not_true]
theorem held_chr (c : Character) (h : c.Group.length ≤ 4) :
    (bif decide ((laws_heldCharacter ({ Kind := c.Kind, Group := ((laws_markCharacter c 1).2).Group, Letter := c.Letter, Colors := c.Colors, Period := c.Period : Character }) 1) < 0) then false else (bif ((laws_heldCharacter ({ Kind := c.Kind, Group := ((laws_markCharacter c 1).2).Group, Letter := c.Letter, Colors := c.Colors, Period := c.Period : Character }) 1) != ((laws_markCharacter c 1).1)) then false else true)) = true := by
  have e : ({ Kind := c.Kind, Group := ((laws_markCharacter c 1).2).Group, Letter := c.Letter, Colors := c.Colors, Period := c.Period : Character }) = (laws_markCharacter c 1).2 := rfl
  have hm := laws_heldCharacter_mark c 1 (by omega) (by omega) (by omega)
  rw [e, hm.1, decide_eq_false hm.2]
  simp
theorem light_eq (k : Int) : impl_StandardLight k = spec_StandardLight k := by
  unfold impl_StandardLight spec_StandardLight
  have hk : impl_isMarkKind k = spec_l11Kind k := rfl
  rw [hk]
  cases h : spec_l11Kind k with
  | false => rfl
  | true =>
    simp only [Bool.not_true, cond_false]
    have hr : 1 ≤ k ∧ k ≤ 9 := by simpa [spec_l11Kind, spec_l00In] using h
    unfold spec_l11Light
    have hp : ∀ l : List (List UInt8), l.length = 10 → impl_pick k l = l.getD k.toNat default := by
      intro l hl
      unfold impl_pick impl_at
      rw [hl, decide_eq_true (show 0 ≤ k by omega), decide_eq_true (show k < ((10 : Nat) : Int) by omega)]
      rfl
    rw [hp _ rfl, read_eq _ (Nat.le_trans (getD_len100 _ (by decide) _) (by omega))]
end Go.Ab

namespace Go.Ab
open Go Go.Proofs
def laws_FnExactReadCharacter (a0 : (List UInt8)) : Bool :=
  (bif decide (1048576 < (a0.length : Int)) then true else (bif ((!(laws_eqCharacter ({ Kind := ((impl_ReadCharacter a0).1).Kind, Group := ((impl_ReadCharacter a0).1).Group, Letter := ((impl_ReadCharacter a0).1).Letter, Colors := ((impl_ReadCharacter a0).1).Colors, Period := ((impl_ReadCharacter a0).1).Period : Character }) ({ Kind := ((spec_ReadCharacter a0).1).Kind, Group := ((spec_ReadCharacter a0).1).Group, Letter := ((spec_ReadCharacter a0).1).Letter, Colors := ((spec_ReadCharacter a0).1).Colors, Period := ((spec_ReadCharacter a0).1).Period : Character }))) || (!(((impl_ReadCharacter a0).2) == ((spec_ReadCharacter a0).2)))) then false else (bif decide ((laws_heldCharacter ({ Kind := ((impl_ReadCharacter a0).1).Kind, Group := ((laws_markCharacter ({ Kind := ((impl_ReadCharacter a0).1).Kind, Group := ((impl_ReadCharacter a0).1).Group, Letter := ((impl_ReadCharacter a0).1).Letter, Colors := ((impl_ReadCharacter a0).1).Colors, Period := ((impl_ReadCharacter a0).1).Period : Character }) 1).2).Group, Letter := ((impl_ReadCharacter a0).1).Letter, Colors := ((impl_ReadCharacter a0).1).Colors, Period := ((impl_ReadCharacter a0).1).Period : Character }) 1) < 0) then false else (bif ((laws_heldCharacter ({ Kind := ((impl_ReadCharacter a0).1).Kind, Group := ((laws_markCharacter ({ Kind := ((impl_ReadCharacter a0).1).Kind, Group := ((impl_ReadCharacter a0).1).Group, Letter := ((impl_ReadCharacter a0).1).Letter, Colors := ((impl_ReadCharacter a0).1).Colors, Period := ((impl_ReadCharacter a0).1).Period : Character }) 1).2).Group, Letter := ((impl_ReadCharacter a0).1).Letter, Colors := ((impl_ReadCharacter a0).1).Colors, Period := ((impl_ReadCharacter a0).1).Period : Character }) 1) != ((laws_markCharacter ({ Kind := ((impl_ReadCharacter a0).1).Kind, Group := ((impl_ReadCharacter a0).1).Group, Letter := ((impl_ReadCharacter a0).1).Letter, Colors := ((impl_ReadCharacter a0).1).Colors, Period := ((impl_ReadCharacter a0).1).Period : Character }) 1).1)) then false else true))))
namespace N5
theorem DD : DOk Tryz.prog (Go.Ab.DD [(19, dP D_spec_ReadCharacter), (20, dP D_impl_ReadCharacter), (21, dP D_laws_eqCharacter), (22, dM [true, false] D_laws_markCharacter), (23, dP D_laws_heldCharacter)]) := DD_cons D_spec_ReadCharacter_ok.e <| DD_cons D_impl_ReadCharacter_ok.e <| DD_cons D_laws_eqCharacter_ok.e <| DD_cons D_laws_markCharacter_ok.e <| DD_cons D_laws_heldCharacter_ok.e <| DD_nil _
theorem dn : type_of% (And.intro @D_spec_ReadCharacter.eq_1 <| And.intro @D_impl_ReadCharacter.eq_1 <| And.intro @D_laws_eqCharacter.eq_1 <| And.intro @D_laws_markCharacter.eq_1 <| And.intro @D_laws_heldCharacter.eq_1 <| And.intro @laws_markCharacter_sub <| @laws_markCharacter_sub) := And.intro @D_spec_ReadCharacter.eq_1 <| And.intro @D_impl_ReadCharacter.eq_1 <| And.intro @D_laws_eqCharacter.eq_1 <| And.intro @D_laws_markCharacter.eq_1 <| And.intro @D_laws_heldCharacter.eq_1 <| And.intro @laws_markCharacter_sub <| @laws_markCharacter_sub
theorem ol : type_of% (@laws_markCharacter_len) := @laws_markCharacter_len
theorem gr {p : Prop} (h : p := by (grind [laws_markCharacter_len, laws_markCharacter_len]); first | done | fail) : p := h
theorem _root_.Go.Ab.laws_FnExactReadCharacter_den (a0 : (List UInt8))  : Den Tryz.prog 5 [.str a0] (.bool (laws_FnExactReadCharacter a0)) := by
  generalize hR : laws_FnExactReadCharacter a0 = r
  unfold laws_FnExactReadCharacter at hR
  refine di Tryz.func5 Tryz.ntmps5 Tryz.results5 ?_
  intro c hL hc hk
  obtain ⟨hL0, _⟩ := hL
  have hw0 : a0.length < 9223372036854775808 := Nat.lt_succ_of_le hL0
  clear hL0
  simp only [pars, Nat.zero_add]
  have hgr := readC_grp a0
  iterate 2 refine rS ?_
  refine AWP.cond rfl (fun hb => ?_) (fun hb => ?_)
  · replace hR := ct hR
    refine rS ?_
    refine AWP.ret ?_
    subst hR
    exact es
  · replace hR := cf hR
    iterate 3 refine rS ?_
    refine AWP.cond rfl (fun hb => ?_) (fun hb => ?_)
    · replace hR := ct hR
      refine rS ?_
      refine AWP.ret ?_
      subst hR
      exact es
    · replace hR := cf hR
      iterate 5 refine rS ?_
      refine AWP.cond rfl (fun hb => ?_) (fun hb => ?_)
      · replace hR := ct hR
        refine rS ?_
        refine AWP.ret ?_
        subst hR
        exact es
      · replace hR := cf hR
        refine rS ?_
        refine AWP.cond rfl (fun hb => ?_) (fun hb => ?_)
        · replace hR := ct hR
          refine rS ?_
          refine AWP.ret ?_
          subst hR
          exact es
        · replace hR := cf hR
          iterate 2 refine rS ?_
          refine AWP.cond rfl (fun hb => ?_) (fun hb => ?_)
          · exfalso; simp_all
          · refine rS ?_
            iterate 2 refine rS ?_
            refine AWP.cond rfl (fun hb => ?_) (fun hb => ?_)
            · exfalso; simp_all
            · refine rS ?_
              refine AWP.cond rfl (fun hb => ?_) (fun hb => ?_)
              · exfalso; simp_all
              · refine rS ?_
                refine AWP.ret ?_
                subst hR
                exact es
end N5
end Go.Ab

namespace Go.Ab
open Go Go.Proofs
theorem law_ReadCharacter (a0 : List UInt8) (hf : a0.length < 9223372036854775808) : laws_FnExactReadCharacter a0 = true := by
  unfold laws_FnExactReadCharacter
  by_cases h : 1048576 < (a0.length : Int)
  · rw [decide_eq_true h]; rfl
  · rw [decide_eq_false h]
    have e : spec_ReadCharacter a0 = impl_ReadCharacter a0 := (read_eq a0 (by omega)).symm
    have hg := readC_grp a0
    rw [e]
    generalize impl_ReadCharacter a0 = r at hg
    have h1 := held_chr r.1 hg
    have h2 := eqChr_refl r.1
    simp only [cond_false]
    rw [h2]
    simp only [Bool.not_true, beq_self_eq_true, Bool.or_self, cond_false]
    exact h1
end Go.Ab

namespace Go.Ab
open Go Go.Proofs Go.Deep Go.ChangeShapes Go.WideShapes Go.ChangeAt Go.RowKit
set_option maxRecDepth 100000
end Go.Ab
