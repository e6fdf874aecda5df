/- A part of a proof: walks of functions and lemmas of our own. No conditions. -/
import Derived.Test.YtpakbdamggpneaaGreatDoorTAl
import Derived.Test.YtpakbdamggpneaaGreatDoorTAv
import Derived.Test.YtpakbdamggpneaaGreatDoorTAu
set_option linter.unusedSectionVars false
set_option linter.unusedVariables false
set_option linter.unusedSimpArgs false
set_option maxHeartbeats 1000000
namespace Go.Ab
open Go Go.Proofs
def laws_FnExactStandardLight (a0 : Int) : Bool :=
  (bif ((!(laws_eqCharacter ({ Kind := ((impl_StandardLight a0).1).Kind, Group := ((impl_StandardLight a0).1).Group, Letter := ((impl_StandardLight a0).1).Letter, Colors := ((impl_StandardLight a0).1).Colors, Period := ((impl_StandardLight a0).1).Period : Character }) ({ Kind := ((spec_StandardLight a0).1).Kind, Group := ((spec_StandardLight a0).1).Group, Letter := ((spec_StandardLight a0).1).Letter, Colors := ((spec_StandardLight a0).1).Colors, Period := ((spec_StandardLight a0).1).Period : Character }))) || (((impl_StandardLight a0).2) != ((spec_StandardLight a0).2))) then false else (bif decide ((laws_heldCharacter ({ Kind := ((impl_StandardLight a0).1).Kind, Group := ((laws_markCharacter ({ Kind := ((impl_StandardLight a0).1).Kind, Group := ((impl_StandardLight a0).1).Group, Letter := ((impl_StandardLight a0).1).Letter, Colors := ((impl_StandardLight a0).1).Colors, Period := ((impl_StandardLight a0).1).Period : Character }) 1).2).Group, Letter := ((impl_StandardLight a0).1).Letter, Colors := ((impl_StandardLight a0).1).Colors, Period := ((impl_StandardLight a0).1).Period : Character }) 1) < 0) then false else (bif ((laws_heldCharacter ({ Kind := ((impl_StandardLight a0).1).Kind, Group := ((laws_markCharacter ({ Kind := ((impl_StandardLight a0).1).Kind, Group := ((impl_StandardLight a0).1).Group, Letter := ((impl_StandardLight a0).1).Letter, Colors := ((impl_StandardLight a0).1).Colors, Period := ((impl_StandardLight a0).1).Period : Character }) 1).2).Group, Letter := ((impl_StandardLight a0).1).Letter, Colors := ((impl_StandardLight a0).1).Colors, Period := ((impl_StandardLight a0).1).Period : Character }) 1) != ((laws_markCharacter ({ Kind := ((impl_StandardLight a0).1).Kind, Group := ((impl_StandardLight a0).1).Group, Letter := ((impl_StandardLight a0).1).Letter, Colors := ((impl_StandardLight a0).1).Colors, Period := ((impl_StandardLight a0).1).Period : Character }) 1).1)) then false else true)))
namespace N6
theorem DD : DOk Tryz.prog (Go.Ab.DD [(21, dP D_laws_eqCharacter), (22, dM [true, false] D_laws_markCharacter), (23, dP D_laws_heldCharacter), (24, dP D_spec_StandardLight), (25, dP D_impl_StandardLight)]) := DD_cons D_laws_eqCharacter_ok.e <| DD_cons D_laws_markCharacter_ok.e <| DD_cons D_laws_heldCharacter_ok.e <| DD_cons D_spec_StandardLight_ok.e <| DD_cons D_impl_StandardLight_ok.e <| DD_nil _
theorem dn : type_of% (And.intro @D_laws_eqCharacter.eq_1 <| And.intro @D_laws_markCharacter.eq_1 <| And.intro @D_laws_heldCharacter.eq_1 <| And.intro @D_spec_StandardLight.eq_1 <| And.intro @D_impl_StandardLight.eq_1 <| And.intro @laws_markCharacter_sub <| @laws_markCharacter_sub) := And.intro @D_laws_eqCharacter.eq_1 <| And.intro @D_laws_markCharacter.eq_1 <| And.intro @D_laws_heldCharacter.eq_1 <| And.intro @D_spec_StandardLight.eq_1 <| And.intro @D_impl_StandardLight.eq_1 <| And.intro @laws_markCharacter_sub <| @laws_markCharacter_sub
theorem ol : type_of% (@laws_markCharacter_len) := @laws_markCharacter_len
theorem gr {p : Prop} (h : p := by (grind [laws_markCharacter_len, laws_markCharacter_len]); first | done | fail) : p := h
theorem _root_.Go.Ab.laws_FnExactStandardLight_den (a0 : Int)  : Den Tryz.prog 6 [.int .i64 a0] (.bool (laws_FnExactStandardLight a0)) := by
  generalize hR : laws_FnExactStandardLight a0 = r
  unfold laws_FnExactStandardLight at hR
  refine di Tryz.func6 Tryz.ntmps6 Tryz.results6 ?_
  intro c hL hc hk
  clear hL
  simp only [pars, Nat.zero_add]
  have hgr := light_grp a0
  iterate 4 refine rS ?_
  refine AWP.cond rfl (fun hb => ?_) (fun hb => ?_)
  · replace hR := ct hR
    refine rS ?_
    refine AWP.ret ?_
    subst hR
    exact es
  · replace hR := cf hR
    iterate 5 refine rS ?_
    refine AWP.cond rfl (fun hb => ?_) (fun hb => ?_)
    · replace hR := ct hR
      refine rS ?_
      refine AWP.ret ?_
      subst hR
      exact es
    · replace hR := cf hR
      refine rS ?_
      refine AWP.cond rfl (fun hb => ?_) (fun hb => ?_)
      · replace hR := ct hR
        refine rS ?_
        refine AWP.ret ?_
        subst hR
        exact es
      · replace hR := cf hR
        iterate 2 refine rS ?_
        refine AWP.cond rfl (fun hb => ?_) (fun hb => ?_)
        · exfalso; simp_all
        · refine rS ?_
          iterate 2 refine rS ?_
          refine AWP.cond rfl (fun hb => ?_) (fun hb => ?_)
          · exfalso; simp_all
          · refine rS ?_
            refine AWP.cond rfl (fun hb => ?_) (fun hb => ?_)
            · exfalso; simp_all
            · refine rS ?_
              refine AWP.ret ?_
              subst hR
              exact es
end N6
end Go.Ab

namespace Go.Ab
open Go Go.Proofs
theorem law_StandardLight (a0 : Int) : laws_FnExactStandardLight a0 = true := by
  unfold laws_FnExactStandardLight
  have hg := light_grp a0
  rw [← light_eq]
  generalize impl_StandardLight a0 = r at hg
  have h1 := held_chr r.1 hg
  have h2 := eqChr_refl r.1
  rw [h2]
  simp only [Bool.not_true, bne_self_eq_false, Bool.or_self, cond_false]
  exact h1
end Go.Ab
