/- A part of a proof: walks of functions and lemmas of our own. No conditions. -/
import Derived.Test.YtaneiddiakjgdaaGreatDoorUAl
import Derived.Test.YtaneiddiakjgdaaGreatDoorUAz
import Derived.Test.YtaneiddiakjgdaaGreatDoorUAp
import Derived.Test.YtaneiddiakjgdaaGreatDoorUAi
import Derived.Test.YtaneiddiakjgdaaGreatDoorUAn
set_option linter.unusedSectionVars false
set_option linter.unusedVariables false
set_option linter.unusedSimpArgs false
set_option maxHeartbeats 1000000
namespace Go.Ab
open Go Go.Proofs
def zab_b1 (a0 : (List Aid)) (a1 : Int) (i1 : Nat) (s1 : Int) : Except (Int) (Int) :=
 (bif (((a0.getD i1 default).Number) != s1) then .error (-1) else (bif (((a0.getD i1 default).Name) != (zn (IntKind.wrap .i64 (s1 + 1)))) then .error (-1) else (bif ((((a0.getD i1 default).At).X) != (IntKind.wrap .i64 ((IntKind.wrap .i64 (s1 + 1)) + 1))) then .error (-1) else (bif ((((a0.getD i1 default).At).Y) != (IntKind.wrap .i64 ((IntKind.wrap .i64 ((IntKind.wrap .i64 (s1 + 1)) + 1)) + 1))) then .error (-1) else (bif (((a0.getD i1 default).Height) != (IntKind.wrap .i64 ((IntKind.wrap .i64 ((IntKind.wrap .i64 ((IntKind.wrap .i64 (s1 + 1)) + 1)) + 1)) + 1))) then .error (-1) else (bif ((((a0.getD i1 default).Mark).Kind) != (IntKind.wrap .i64 ((IntKind.wrap .i64 ((IntKind.wrap .i64 ((IntKind.wrap .i64 ((IntKind.wrap .i64 (s1 + 1)) + 1)) + 1)) + 1)) + 1))) then .error (-1) else (bif ((((a0.getD i1 default).Mark).Colors) != (zn (IntKind.wrap .i64 ((IntKind.wrap .i64 ((IntKind.wrap .i64 ((IntKind.wrap .i64 ((IntKind.wrap .i64 ((IntKind.wrap .i64 (s1 + 1)) + 1)) + 1)) + 1)) + 1)) + 1)))) then .error (-1) else (bif ((((a0.getD i1 default).Mark).Shape) != (zn (IntKind.wrap .i64 ((IntKind.wrap .i64 ((IntKind.wrap .i64 ((IntKind.wrap .i64 ((IntKind.wrap .i64 ((IntKind.wrap .i64 ((IntKind.wrap .i64 (s1 + 1)) + 1)) + 1)) + 1)) + 1)) + 1)) + 1)))) then .error (-1) else (bif ((((a0.getD i1 default).Mark).Topmark) != (zn (IntKind.wrap .i64 ((IntKind.wrap .i64 ((IntKind.wrap .i64 ((IntKind.wrap .i64 ((IntKind.wrap .i64 ((IntKind.wrap .i64 ((IntKind.wrap .i64 ((IntKind.wrap .i64 (s1 + 1)) + 1)) + 1)) + 1)) + 1)) + 1)) + 1)) + 1)))) then .error (-1) else (bif ((((a0.getD i1 default).Light).Kind) != (IntKind.wrap .i64 ((IntKind.wrap .i64 ((IntKind.wrap .i64 ((IntKind.wrap .i64 ((IntKind.wrap .i64 ((IntKind.wrap .i64 ((IntKind.wrap .i64 ((IntKind.wrap .i64 ((IntKind.wrap .i64 (s1 + 1)) + 1)) + 1)) + 1)) + 1)) + 1)) + 1)) + 1)) + 1))) then .error (-1) else (bif decide ((zu (((a0.getD i1 default).Light).Group) (IntKind.wrap .i64 ((IntKind.wrap .i64 ((IntKind.wrap .i64 ((IntKind.wrap .i64 ((IntKind.wrap .i64 ((IntKind.wrap .i64 ((IntKind.wrap .i64 ((IntKind.wrap .i64 ((IntKind.wrap .i64 ((IntKind.wrap .i64 (s1 + 1)) + 1)) + 1)) + 1)) + 1)) + 1)) + 1)) + 1)) + 1)) + 1))) < 0) then .error (-1) else (bif ((((a0.getD i1 default).Light).Letter) != (zn (zu (((a0.getD i1 default).Light).Group) (IntKind.wrap .i64 ((IntKind.wrap .i64 ((IntKind.wrap .i64 ((IntKind.wrap .i64 ((IntKind.wrap .i64 ((IntKind.wrap .i64 ((IntKind.wrap .i64 ((IntKind.wrap .i64 ((IntKind.wrap .i64 ((IntKind.wrap .i64 (s1 + 1)) + 1)) + 1)) + 1)) + 1)) + 1)) + 1)) + 1)) + 1)) + 1))))) then .error (-1) else (bif ((((a0.getD i1 default).Light).Colors) != (zn (IntKind.wrap .i64 ((zu (((a0.getD i1 default).Light).Group) (IntKind.wrap .i64 ((IntKind.wrap .i64 ((IntKind.wrap .i64 ((IntKind.wrap .i64 ((IntKind.wrap .i64 ((IntKind.wrap .i64 ((IntKind.wrap .i64 ((IntKind.wrap .i64 ((IntKind.wrap .i64 ((IntKind.wrap .i64 (s1 + 1)) + 1)) + 1)) + 1)) + 1)) + 1)) + 1)) + 1)) + 1)) + 1))) + 1)))) then .error (-1) else (bif ((((a0.getD i1 default).Light).Period) != (IntKind.wrap .i64 ((IntKind.wrap .i64 ((zu (((a0.getD i1 default).Light).Group) (IntKind.wrap .i64 ((IntKind.wrap .i64 ((IntKind.wrap .i64 ((IntKind.wrap .i64 ((IntKind.wrap .i64 ((IntKind.wrap .i64 ((IntKind.wrap .i64 ((IntKind.wrap .i64 ((IntKind.wrap .i64 ((IntKind.wrap .i64 (s1 + 1)) + 1)) + 1)) + 1)) + 1)) + 1)) + 1)) + 1)) + 1)) + 1))) + 1)) + 1))) then .error (-1) else (bif decide ((zsb ((a0.getD i1 default).Sectors) (IntKind.wrap .i64 ((IntKind.wrap .i64 ((IntKind.wrap .i64 ((zu (((a0.getD i1 default).Light).Group) (IntKind.wrap .i64 ((IntKind.wrap .i64 ((IntKind.wrap .i64 ((IntKind.wrap .i64 ((IntKind.wrap .i64 ((IntKind.wrap .i64 ((IntKind.wrap .i64 ((IntKind.wrap .i64 ((IntKind.wrap .i64 ((IntKind.wrap .i64 (s1 + 1)) + 1)) + 1)) + 1)) + 1)) + 1)) + 1)) + 1)) + 1)) + 1))) + 1)) + 1)) + 1))) < 0) then .error (-1) else (bif (((a0.getD i1 default).Intensity) != (zsb ((a0.getD i1 default).Sectors) (IntKind.wrap .i64 ((IntKind.wrap .i64 ((IntKind.wrap .i64 ((zu (((a0.getD i1 default).Light).Group) (IntKind.wrap .i64 ((IntKind.wrap .i64 ((IntKind.wrap .i64 ((IntKind.wrap .i64 ((IntKind.wrap .i64 ((IntKind.wrap .i64 ((IntKind.wrap .i64 ((IntKind.wrap .i64 ((IntKind.wrap .i64 ((IntKind.wrap .i64 (s1 + 1)) + 1)) + 1)) + 1)) + 1)) + 1)) + 1)) + 1)) + 1)) + 1))) + 1)) + 1)) + 1)))) then .error (-1) else .ok (IntKind.wrap .i64 ((zsb ((a0.getD i1 default).Sectors) (IntKind.wrap .i64 ((IntKind.wrap .i64 ((IntKind.wrap .i64 ((zu (((a0.getD i1 default).Light).Group) (IntKind.wrap .i64 ((IntKind.wrap .i64 ((IntKind.wrap .i64 ((IntKind.wrap .i64 ((IntKind.wrap .i64 ((IntKind.wrap .i64 ((IntKind.wrap .i64 ((IntKind.wrap .i64 ((IntKind.wrap .i64 ((IntKind.wrap .i64 (s1 + 1)) + 1)) + 1)) + 1)) + 1)) + 1)) + 1)) + 1)) + 1)) + 1))) + 1)) + 1)) + 1))) + 1))))))))))))))))))
def zab (a0 : (List Aid)) (a1 : Int) : Int :=
 (match loopR (zab_b1 a0 a1) (a0.length - 0) 0 a1 with | .error e => e | .ok s1 => s1)
namespace N37
theorem DD : DOk Tryz.prog (Go.Ab.DD [(21, dP D_zu), (75, dP D_zn), (83, dP D_zsb)]) := DD_cons D_zu_ok.e <| DD_cons D_zn_ok.e <| DD_cons D_zsb_ok.e <| DD_nil _
theorem dn : type_of% (And.intro @D_zu.eq_1 <| And.intro @D_zn.eq_1 <| And.intro @D_zsb.eq_1 <| And.intro @zd_sub <| @markSectorS_sub) := And.intro @D_zu.eq_1 <| And.intro @D_zn.eq_1 <| And.intro @D_zsb.eq_1 <| And.intro @zd_sub <| @markSectorS_sub
theorem ol : type_of% (And.intro @zd_len <| @markSectorS_len) := And.intro @zd_len <| @markSectorS_len
theorem gr {p : Prop} (h : p := by (grind [zd_len, markSectorS_le]); first | done | fail) : p := h
theorem o1 {p : Prop} (h : p := by (first | (exact mrg) | (exact heldInt64S_le _ _ (by exact mrg)) | (exact heldSectorS_le _ _ (by exact mrg))); first | done | fail) : p := h
set_option maxHeartbeats 4000000 in
set_option maxRecDepth 20000 in
theorem den (a0 : (List Aid)) (a1 : Int) (hp0 : a1 ≤ 9223372036854775807) : Den Tryz.prog 37 [encL 16 eAid a0, .int .i64 a1] (.int .i64 (zab a0 a1)) := by
 generalize hR : zab a0 a1 = r
 unfold zab at hR
 refine di Tryz.func37 Tryz.ntmps37 Tryz.results37 ?_
 intro c hL hc hk
 obtain ⟨hL0, hL1, _⟩ := hL
 have hw0 : a0.length < 9223372036854775808 := Nat.lt_succ_of_le (lens_encL hL0).1
 have hw1 : ∀ v ∈ a0, bwAid v := fun v hv => Aid_lens v ((lens_encL hL0).2 v hv)
 clear hL0 hL1
 simp only [pars, Nat.zero_add]
 iterate 2 refine rS ?_
 refine AWP.block ?_
 generalize hz1 : loopR (zab_b1 a0 a1) (a0.length - 0) 0 a1 = z1 at hR
 refine AWP.range (zab_b1 a0 a1) (fun i1 s1 => ⟨[(0, encL 16 eAid a0), (1, .int .i64 s1), (5, .int .i64 (i1 : Int))], []⟩) (fun i1 s1 => s1 ≤ 9223372036854775807) (a0.length) 0 a1 [] hz1 ot wt sm ?_
 clear hz1
 intro i1 s1 hi1 hW1 hz1
 refine rS ?_
 refine AWP.cond rfl (fun hb => ?_) (fun hb => ?_)
 ·have hlt1 : i1 < a0.length := ot
  rw [loopR_lt hlt1] at hz1; simp only [zab_b1] at hz1
  refine rS ?_
  refine AWP.cond rfl (fun hb => ?_) (fun hb => ?_)
  ·simp only [hb, cond_true] at hz1
   refine rS ?_
   refine AWP.ret ?_
   subst hz1
   dsimp only at hR
   subst hR
   exact es
  ·simp only [hb, cond_false] at hz1
   refine rS ?_
   refine rD 7 ?_
   refine AWP.cond rfl (fun hb => ?_) (fun hb => ?_)
   ·simp only [hb, cond_true] at hz1
    refine rS ?_
    refine AWP.ret ?_
    subst hz1
    dsimp only at hR
    subst hR
    exact es
   ·simp only [hb, cond_false] at hz1
    iterate 2 refine rS ?_
    refine AWP.cond rfl (fun hb => ?_) (fun hb => ?_)
    ·simp only [hb, cond_true] at hz1
     refine rS ?_
     refine AWP.ret ?_
     subst hz1
     dsimp only at hR
     subst hR
     exact es
    ·simp only [hb, cond_false] at hz1
     iterate 2 refine rS ?_
     refine AWP.cond rfl (fun hb => ?_) (fun hb => ?_)
     ·simp only [hb, cond_true] at hz1
      refine rS ?_
      refine AWP.ret ?_
      subst hz1
      dsimp only at hR
      subst hR
      exact es
     ·simp only [hb, cond_false] at hz1
      iterate 2 refine rS ?_
      refine AWP.cond rfl (fun hb => ?_) (fun hb => ?_)
      ·simp only [hb, cond_true] at hz1
       refine rS ?_
       refine AWP.ret ?_
       subst hz1
       dsimp only at hR
       subst hR
       exact es
      ·simp only [hb, cond_false] at hz1
       iterate 2 refine rS ?_
       refine AWP.cond rfl (fun hb => ?_) (fun hb => ?_)
       ·simp only [hb, cond_true] at hz1
        refine rS ?_
        refine AWP.ret ?_
        subst hz1
        dsimp only at hR
        subst hR
        exact es
       ·simp only [hb, cond_false] at hz1
        refine rS ?_
        refine rD 9 ?_
        refine AWP.cond rfl (fun hb => ?_) (fun hb => ?_)
        ·simp only [hb, cond_true] at hz1
         refine rS ?_
         refine AWP.ret ?_
         subst hz1
         dsimp only at hR
         subst hR
         exact es
        ·simp only [hb, cond_false] at hz1
         refine rS ?_
         refine rD 9 ?_
         refine AWP.cond rfl (fun hb => ?_) (fun hb => ?_)
         ·simp only [hb, cond_true] at hz1
          refine rS ?_
          refine AWP.ret ?_
          subst hz1
          dsimp only at hR
          subst hR
          exact es
         ·simp only [hb, cond_false] at hz1
          refine rS ?_
          refine rD 9 ?_
          refine AWP.cond rfl (fun hb => ?_) (fun hb => ?_)
          ·simp only [hb, cond_true] at hz1
           refine rS ?_
           refine AWP.ret ?_
           subst hz1
           dsimp only at hR
           subst hR
           exact es
          ·simp only [hb, cond_false] at hz1
           iterate 2 refine rS ?_
           refine AWP.cond rfl (fun hb => ?_) (fun hb => ?_)
           ·simp only [hb, cond_true] at hz1
            refine rS ?_
            refine AWP.ret ?_
            subst hz1
            dsimp only at hR
            subst hR
            exact es
           ·simp only [hb, cond_false] at hz1
            iterate 3 refine rS ?_
            refine AWP.cond rfl (fun hb => ?_) (fun hb => ?_)
            ·simp only [hb, cond_true] at hz1
             refine rS ?_
             refine AWP.ret ?_
             subst hz1
             dsimp only at hR
             subst hR
             exact es
            ·simp only [hb, cond_false] at hz1
             refine rD 9 ?_
             refine AWP.cond rfl (fun hb => ?_) (fun hb => ?_)
             ·simp only [hb, cond_true] at hz1
              refine rS ?_
              refine AWP.ret ?_
              subst hz1
              dsimp only at hR
              subst hR
              exact es
             ·simp only [hb, cond_false] at hz1
              refine rS ?_
              refine rD 9 ?_
              refine AWP.cond rfl (fun hb => ?_) (fun hb => ?_)
              ·simp only [hb, cond_true] at hz1
               refine rS ?_
               refine AWP.ret ?_
               subst hz1
               dsimp only at hR
               subst hR
               exact es
              ·simp only [hb, cond_false] at hz1
               iterate 2 refine rS ?_
               refine AWP.cond rfl (fun hb => ?_) (fun hb => ?_)
               ·simp only [hb, cond_true] at hz1
                refine rS ?_
                refine AWP.ret ?_
                subst hz1
                dsimp only at hR
                subst hR
                exact es
               ·simp only [hb, cond_false] at hz1
                iterate 3 refine rS ?_
                refine AWP.cond rfl (fun hb => ?_) (fun hb => ?_)
                ·simp only [hb, cond_true] at hz1
                 refine rS ?_
                 refine AWP.ret ?_
                 subst hz1
                 dsimp only at hR
                 subst hR
                 exact es
                ·simp only [hb, cond_false] at hz1
                 refine rS ?_
                 refine AWP.cond rfl (fun hb => ?_) (fun hb => ?_)
                 ·simp only [hb, cond_true] at hz1
                  refine rS ?_
                  refine AWP.ret ?_
                  subst hz1
                  dsimp only at hR
                  subst hR
                  exact es
                 ·simp only [hb, cond_false] at hz1
                  iterate 2 refine rS ?_
                  exact ⟨_, [], hlt1, by (exact mrg), hz1, sm⟩
 ·obtain rfl : i1 = a0.length := ot
  rw [loopR_ge (Nat.le_refl _)] at hz1; subst hz1; dsimp only at hR
  refine AWP.exit ?_; refine exitTo_here ?_
  refine rS ?_
  refine AWP.ret ?_
  subst hR
  exact es
end N37
def D_zab : DF
 | [x0, x1] => some (.int .i64 (zab (rdL dAid x0) (rdI x1)), false, [wL 16 eAid dAid x0, wI .i64 x1, (rdI x1) ≤ 9223372036854775807])
 | _ => none
theorem D_zab_ok : OkD Tryz.prog 37 D_zab := by unfold D_zab; exact dk N37.den
end Go.Ab

namespace Go.Ab
open Go Go.Proofs
def aidStep (x : Aid) (k : Int) : Int × Aid :=
 (IntKind.wrap .i64 (((zp (x.Sectors) (IntKind.wrap .i64 ((IntKind.wrap .i64 ((IntKind.wrap .i64 (((zd ((x.Light).Group) (IntKind.wrap .i64 ((IntKind.wrap .i64 ((IntKind.wrap .i64 ((IntKind.wrap .i64 ((IntKind.wrap .i64 ((IntKind.wrap .i64 ((IntKind.wrap .i64 ((IntKind.wrap .i64 ((IntKind.wrap .i64 ((IntKind.wrap .i64 (k + 1)) + 1)) + 1)) + 1)) + 1)) + 1)) + 1)) + 1)) + 1)) + 1))).1) + 1)) + 1)) + 1))).1) + 1), { Number := k, Name := (zn (IntKind.wrap .i64 (k + 1))), At := { X := IntKind.wrap .i64 ((IntKind.wrap .i64 (k + 1)) + 1), Y := IntKind.wrap .i64 ((IntKind.wrap .i64 ((IntKind.wrap .i64 (k + 1)) + 1)) + 1) : Point }, Height := IntKind.wrap .i64 ((IntKind.wrap .i64 ((IntKind.wrap .i64 ((IntKind.wrap .i64 (k + 1)) + 1)) + 1)) + 1), Mark := { Kind := IntKind.wrap .i64 ((IntKind.wrap .i64 ((IntKind.wrap .i64 ((IntKind.wrap .i64 ((IntKind.wrap .i64 (k + 1)) + 1)) + 1)) + 1)) + 1), Colors := (zn (IntKind.wrap .i64 ((IntKind.wrap .i64 ((IntKind.wrap .i64 ((IntKind.wrap .i64 ((IntKind.wrap .i64 ((IntKind.wrap .i64 (k + 1)) + 1)) + 1)) + 1)) + 1)) + 1))), Shape := (zn (IntKind.wrap .i64 ((IntKind.wrap .i64 ((IntKind.wrap .i64 ((IntKind.wrap .i64 ((IntKind.wrap .i64 ((IntKind.wrap .i64 ((IntKind.wrap .i64 (k + 1)) + 1)) + 1)) + 1)) + 1)) + 1)) + 1))), Topmark := (zn (IntKind.wrap .i64 ((IntKind.wrap .i64 ((IntKind.wrap .i64 ((IntKind.wrap .i64 ((IntKind.wrap .i64 ((IntKind.wrap .i64 ((IntKind.wrap .i64 ((IntKind.wrap .i64 (k + 1)) + 1)) + 1)) + 1)) + 1)) + 1)) + 1)) + 1))) : Mark }, Light := { Kind := IntKind.wrap .i64 ((IntKind.wrap .i64 ((IntKind.wrap .i64 ((IntKind.wrap .i64 ((IntKind.wrap .i64 ((IntKind.wrap .i64 ((IntKind.wrap .i64 ((IntKind.wrap .i64 ((IntKind.wrap .i64 (k + 1)) + 1)) + 1)) + 1)) + 1)) + 1)) + 1)) + 1)) + 1), Group := (zd ((x.Light).Group) (IntKind.wrap .i64 ((IntKind.wrap .i64 ((IntKind.wrap .i64 ((IntKind.wrap .i64 ((IntKind.wrap .i64 ((IntKind.wrap .i64 ((IntKind.wrap .i64 ((IntKind.wrap .i64 ((IntKind.wrap .i64 ((IntKind.wrap .i64 (k + 1)) + 1)) + 1)) + 1)) + 1)) + 1)) + 1)) + 1)) + 1)) + 1))).2, Letter := (zn ((zd ((x.Light).Group) (IntKind.wrap .i64 ((IntKind.wrap .i64 ((IntKind.wrap .i64 ((IntKind.wrap .i64 ((IntKind.wrap .i64 ((IntKind.wrap .i64 ((IntKind.wrap .i64 ((IntKind.wrap .i64 ((IntKind.wrap .i64 ((IntKind.wrap .i64 (k + 1)) + 1)) + 1)) + 1)) + 1)) + 1)) + 1)) + 1)) + 1)) + 1))).1)), Colors := (zn (IntKind.wrap .i64 (((zd ((x.Light).Group) (IntKind.wrap .i64 ((IntKind.wrap .i64 ((IntKind.wrap .i64 ((IntKind.wrap .i64 ((IntKind.wrap .i64 ((IntKind.wrap .i64 ((IntKind.wrap .i64 ((IntKind.wrap .i64 ((IntKind.wrap .i64 ((IntKind.wrap .i64 (k + 1)) + 1)) + 1)) + 1)) + 1)) + 1)) + 1)) + 1)) + 1)) + 1))).1) + 1))), Period := IntKind.wrap .i64 ((IntKind.wrap .i64 (((zd ((x.Light).Group) (IntKind.wrap .i64 ((IntKind.wrap .i64 ((IntKind.wrap .i64 ((IntKind.wrap .i64 ((IntKind.wrap .i64 ((IntKind.wrap .i64 ((IntKind.wrap .i64 ((IntKind.wrap .i64 ((IntKind.wrap .i64 ((IntKind.wrap .i64 (k + 1)) + 1)) + 1)) + 1)) + 1)) + 1)) + 1)) + 1)) + 1)) + 1))).1) + 1)) + 1) : Character }, Sectors := (zp (x.Sectors) (IntKind.wrap .i64 ((IntKind.wrap .i64 ((IntKind.wrap .i64 (((zd ((x.Light).Group) (IntKind.wrap .i64 ((IntKind.wrap .i64 ((IntKind.wrap .i64 ((IntKind.wrap .i64 ((IntKind.wrap .i64 ((IntKind.wrap .i64 ((IntKind.wrap .i64 ((IntKind.wrap .i64 ((IntKind.wrap .i64 ((IntKind.wrap .i64 (k + 1)) + 1)) + 1)) + 1)) + 1)) + 1)) + 1)) + 1)) + 1)) + 1))).1) + 1)) + 1)) + 1))).2, Intensity := ((zp (x.Sectors) (IntKind.wrap .i64 ((IntKind.wrap .i64 ((IntKind.wrap .i64 (((zd ((x.Light).Group) (IntKind.wrap .i64 ((IntKind.wrap .i64 ((IntKind.wrap .i64 ((IntKind.wrap .i64 ((IntKind.wrap .i64 ((IntKind.wrap .i64 ((IntKind.wrap .i64 ((IntKind.wrap .i64 ((IntKind.wrap .i64 ((IntKind.wrap .i64 (k + 1)) + 1)) + 1)) + 1)) + 1)) + 1)) + 1)) + 1)) + 1)) + 1))).1) + 1)) + 1)) + 1))).1) : Aid })
theorem markAidS_R (a : List Aid) (k : Int) : zq a k = markR aidStep a k := by
 unfold zq
 have := markR_loop aidStep (zq_b1 a k) (fun i s => rfl) a [] k
 simp only [List.length_nil, List.nil_append, Nat.sub_zero] at this ⊢
 rw [this]
def aidB (x : Aid) : Prop := x.Light.Group.length ≤ 1048576 ∧ x.Sectors.length ≤ 1048576
theorem aidStep_k (x : Aid) (k : Int) (hx : aidB x) (h0 : 0 ≤ k) (h1 : k ≤ 281474976710656) : (aidStep x k).1 = k + 14 + x.Light.Group.length + 3 * x.Sectors.length := by
 obtain ⟨b1, b2⟩ := hx
 unfold aidStep
 simp (disch := omega) only [wr1]
 have g1 : k + 1 + 1 + 1 + 1 + 1 + 1 + 1 + 1 + 1 + 1 = k + 10 := by omega
 rw [g1, zd_k _ _ (by omega) (by omega) (by omega)]
 simp (disch := omega) only [wr1]
 rw [markSectorS_k _ _ (by omega) (by omega) (by omega)]
 simp (disch := omega) only [wr1]
 omega
theorem heldAid_step (L : List Aid) (a1 : Int) (j : Nat) (x : Aid) (s : Int) (hx : aidB x) (h0 : 0 ≤ s) (h1 : s ≤ 281474976710656) (e : L.getD j default = (aidStep x s).2) : zab_b1 L a1 j s = .ok (aidStep x s).1 := by
 obtain ⟨b1, b2⟩ := hx
 simp only [zab_b1, e]
 simp only [aidStep]
 simp (disch := omega) only [wr1]
 have g1 : s + 1 + 1 + 1 + 1 + 1 + 1 + 1 + 1 + 1 + 1 = s + 10 := by omega
 simp only [g1]
 have e1 := zu_mark x.Light.Group (s + 10) (by omega) (by omega) (by omega)
 have e2 := zd_k x.Light.Group (s + 10) (by omega) (by omega) (by omega)
 simp only [e1.1, e2]
 simp (disch := omega) only [wr1]
 have e3 := heldSectorS_mark x.Sectors (s + 10 + 1 * (x.Light.Group.length : Int) + 1 + 1 + 1) (by omega) (by omega) (by omega)
 have e4 := markSectorS_k x.Sectors (s + 10 + 1 * (x.Light.Group.length : Int) + 1 + 1 + 1) (by omega) (by omega) (by omega)
 simp only [e3.1, e4]
 simp (disch := omega) only [wr1]
 rw [decide_eq_false (show ¬ s + 10 + 1 * (x.Light.Group.length : Int) < 0 by omega), decide_eq_false (show ¬ s + 10 + 1 * (x.Light.Group.length : Int) + 1 + 1 + 1 + 3 * (x.Sectors.length : Int) < 0 by omega)]
 simp only [bne_self_eq_false, cond_false]
theorem aidStep_rng (x : Aid) (k : Int) (hx : aidB x) (h0 : 0 ≤ k) (h1 : k ≤ 281474976710656) : k ≤ (aidStep x k).1 ∧ (aidStep x k).1 ≤ k + 4194400 := by
 rw [aidStep_k x k hx h0 h1]
 obtain ⟨b1, b2⟩ := hx
 omega
theorem markAidS_rng (a : List Aid) (k : Int) (ha : ∀ x ∈ a, aidB x) (hl : a.length ≤ 1048576) (h0 : 0 ≤ k) (h1 : k ≤ 140737488355328) : k ≤ (zq a k).1 ∧ (zq a k).1 ≤ k + 4194400 * a.length := by
 rw [markAidS_R]
 exact markR_le aidStep aidB 4194400 281474976710656 (by omega) aidStep_rng a k ha h0 (by omega)
theorem heldAidS_mark (a : List Aid) (k : Int) (ha : ∀ x ∈ a, aidB x) (hl : a.length ≤ 1048576) (h0 : 0 ≤ k) (h1 : k ≤ 140737488355328) : zab (zq a k).2 k = (zq a k).1 ∧ ¬ (zq a k).1 < 0 := by
 refine ⟨?_, by have := markAidS_rng a k ha hl h0 h1; omega⟩
 rw [markAidS_R]
 unfold zab
 rw [markR_len, Nat.sub_zero]
 rw [markR_held aidStep (zab_b1 (markR aidStep a k).2 k) aidB 4194400 281474976710656 (by omega) aidStep_rng a 0 k ha h0 (by omega) (fun j x s hx g0 g1 g2 => by
  have e : (markR aidStep a k).2.getD (0 + j) default = (aidStep x s).2 := by rw [Nat.zero_add, List.getD_eq_getElem?_getD, g2]; rfl
  exact heldAid_step _ _ _ x s hx g0 g1 e)]
end Go.Ab

namespace Go.Ab
open Go Go.Proofs
def zxd (a0 : Point) : Point :=
 a0
namespace N89
theorem DD : DOk Tryz.prog (Go.Ab.DD []) := DD_nil _
theorem den (a0 : Point)  : Den Tryz.prog 89 [.agg (ePoint a0)] (.agg (ePoint (zxd a0))) := by
 generalize hR : zxd a0 = r
 unfold zxd at hR
 refine di Tryz.func89 Tryz.ntmps89 Tryz.results89 ?_
 intro c hL hc hk
 clear hL
 simp only [pars, Nat.zero_add]
 iterate 5 refine rS ?_
 refine AWP.ret ?_
 subst hR
 exact es
end N89
def D_zxd : DF
 | [x0] => some (.agg (ePoint (zxd (rdG dPoint x0))), false, [wG ePoint dPoint x0])
 | _ => none
theorem D_zxd_ok : OkD Tryz.prog 89 D_zxd := by unfold D_zxd; exact dk N89.den
end Go.Ab

namespace Go.Ab
open Go Go.Proofs
def zyd (a0 : Mark) : Mark :=
 a0
namespace N90
theorem DD : DOk Tryz.prog (Go.Ab.DD []) := DD_nil _
theorem den (a0 : Mark)  : Den Tryz.prog 90 [.agg (eMark a0)] (.agg (eMark (zyd a0))) := by
 generalize hR : zyd a0 = r
 unfold zyd at hR
 refine di Tryz.func90 Tryz.ntmps90 Tryz.results90 ?_
 intro c hL hc hk
 obtain ⟨hL0, _⟩ := hL
 have hw0 : bwMark a0 := Mark_lens a0 hL0
 clear hL0
 simp only [pars, Nat.zero_add]
 iterate 7 refine rS ?_
 refine AWP.ret ?_
 subst hR
 exact es
end N90
def D_zyd : DF
 | [x0] => some (.agg (eMark (zyd (rdG dMark x0))), false, [wG eMark dMark x0])
 | _ => none
theorem D_zyd_ok : OkD Tryz.prog 90 D_zyd := by unfold D_zyd; exact dk N90.den
end Go.Ab

namespace Go.Ab
open Go Go.Proofs
def zac_b1 (a0 : (List Int)) (i1 : Nat) (s1 : List Int) : Except ((List Int)) (List Int) :=
 .ok (s1.set i1 (a0.getD i1 default))
def zac (a0 : (List Int)) : (List Int) :=
 (match loopR (zac_b1 a0) (a0.length - 0) 0 (List.replicate a0.length (default : Int)) with | .error e => e | .ok s1 => s1)
namespace N156
theorem DD : DOk Tryz.prog (Go.Ab.DD []) := DD_nil _
theorem den (a0 : (List Int)) (hb0 : a0.length < 1099511627776) : Den Tryz.prog 156 [encL 1 eIi64 a0] (ownL 2 1 eIi64 (zac a0)) := by
 generalize hR : zac a0 = r
 unfold zac at hR
 refine di Tryz.func156 Tryz.ntmps156 Tryz.results156 ?_
 intro c hL hc hk
 obtain ⟨hL0, _⟩ := hL
 have hw0 : a0.length < 9223372036854775808 := Nat.lt_succ_of_le (lens_encL hL0).1
 clear hL0
 simp only [pars, Nat.zero_add]
 iterate 3 refine rS ?_
 refine AWP.block ?_
 generalize hz1 : loopR (zac_b1 a0) (a0.length - 0) 0 (List.replicate a0.length (default : Int)) = z1 at hR
 refine AWP.range (zac_b1 a0) (fun i1 s1 => ⟨[(0, encL 1 eIi64 a0), (3, .ref 0 1 0 s1.length), (4, .int .i64 (i1 : Int))], [.arr 2 1 s1.length (fun j => eIi64 (s1.getD j default))]⟩) (fun i1 s1 => s1.length = (List.replicate a0.length (default : Int)).length) (a0.length) 0 (List.replicate a0.length (default : Int)) [0] hz1 ot wt sm ?_
 clear hz1
 intro i1 s1 hi1 hW1 hz1
 refine rS ?_
 refine AWP.cond rfl (fun hb => ?_) (fun hb => ?_)
 ·have hlt1 : i1 < a0.length := ot
  rw [loopR_lt hlt1] at hz1; simp only [zac_b1] at hz1
  iterate 2 refine rS ?_
  exact ⟨_, [0], hlt1, wt, hz1, sm⟩
 ·obtain rfl : i1 = a0.length := ot
  rw [loopR_ge (Nat.le_refl _)] at hz1; subst hz1; dsimp only at hR
  refine AWP.exit ?_; refine exitTo_here ?_
  refine rS ?_
  refine AWP.ret ?_
  subst hR
  exact es
end N156
def D_zac : DF
 | [x0] => some (ownL 2 1 eIi64 (zac (rdL dIi64 x0)), false, [wL 1 eIi64 dIi64 x0, (rdL dIi64 x0).length < 1099511627776])
 | _ => none
theorem D_zac_ok : OkD Tryz.prog 156 D_zac := by unfold D_zac; exact dk N156.den
end Go.Ab

namespace Go.Ab
open Go Go.Proofs
theorem zac_id (a : List Int) : zac a = a := by
 unfold zac
 rw [loopR_fill (b := zac_b1 a) (fun i => a.getD i default) (by simp) (fun i s _ => rfl)]
 skip
 exact range_getD a
end Go.Ab

namespace Go.Ab
open Go Go.Proofs
def zzd (a0 : Character) : Character :=
 { Kind := a0.Kind, Group := (zac a0.Group), Letter := a0.Letter, Colors := a0.Colors, Period := a0.Period : Character }
namespace N91
theorem DD : DOk Tryz.prog (Go.Ab.DD [(156, dP D_zac)]) := DD_cons D_zac_ok.e <| DD_nil _
theorem dn : type_of% (@D_zac.eq_1) := by and_intros <;> intros <;> rfl
theorem ol : type_of% (@zac_id) := @zac_id
theorem den (a0 : Character) (hb0 : bdCharacter a0) : Den Tryz.prog 91 [.agg (eCharacter a0)] (.agg (eCharacterO (zzd a0))) := by
 generalize hR : zzd a0 = r
 unfold zzd at hR
 refine di Tryz.func91 Tryz.ntmps91 Tryz.results91 ?_
 intro c hL hc hk
 obtain ⟨hL0, _⟩ := hL
 have hw0 : bwCharacter a0 := Character_lens a0 hL0
 clear hL0
 simp only [pars, Nat.zero_add]
 iterate 8 refine rS ?_
 refine AWP.ret ?_
 subst hR
 exact es
end N91
def D_zzd : DF
 | [x0] => some (.agg (eCharacterO (zzd (rdG dCharacter x0))), false, [wG eCharacter dCharacter x0, bdCharacter (rdG dCharacter x0)])
 | _ => none
theorem D_zzd_ok : OkD Tryz.prog 91 D_zzd := by unfold D_zzd; exact dk N91.den
end Go.Ab

namespace Go.Ab
open Go Go.Proofs
def ztd (a0 : Sector) : Sector :=
 a0
namespace N157
theorem DD : DOk Tryz.prog (Go.Ab.DD []) := DD_nil _
theorem den (a0 : Sector)  : Den Tryz.prog 157 [.agg (eSector a0)] (.agg (eSector (ztd a0))) := by
 generalize hR : ztd a0 = r
 unfold ztd at hR
 refine di Tryz.func157 Tryz.ntmps157 Tryz.results157 ?_
 intro c hL hc hk
 obtain ⟨hL0, _⟩ := hL
 have hw0 : bwSector a0 := Sector_lens a0 hL0
 clear hL0
 simp only [pars, Nat.zero_add]
 iterate 6 refine rS ?_
 refine AWP.ret ?_
 subst hR
 exact es
end N157
def D_ztd : DF
 | [x0] => some (.agg (eSector (ztd (rdG dSector x0))), false, [wG eSector dSector x0])
 | _ => none
theorem D_ztd_ok : OkD Tryz.prog 157 D_ztd := by unfold D_ztd; exact dk N157.den
end Go.Ab

namespace Go.Ab
open Go Go.Proofs
def zbc_b1 (a0 : (List Sector)) (i1 : Nat) (s1 : List Sector) : Except ((List Sector)) (List Sector) :=
 .ok (s1.set i1 (ztd (a0.getD i1 default)))
def zbc (a0 : (List Sector)) : (List Sector) :=
 (match loopR (zbc_b1 a0) (a0.length - 0) 0 (List.replicate a0.length (default : Sector)) with | .error e => e | .ok s1 => s1)
namespace N92
theorem DD : DOk Tryz.prog (Go.Ab.DD [(157, dP D_ztd)]) := DD_cons D_ztd_ok.e <| DD_nil _
theorem dn : type_of% (@D_ztd.eq_1) := by and_intros <;> intros <;> rfl
theorem den (a0 : (List Sector)) (hb0 : a0.length < 1099511627776) (hb1 : ∀ v ∈ a0, bdSector v) : Den Tryz.prog 92 [encL 3 eSector a0] (ownL 180 3 eSector (zbc a0)) := by
 generalize hR : zbc a0 = r
 unfold zbc at hR
 refine di Tryz.func92 Tryz.ntmps92 Tryz.results92 ?_
 intro c hL hc hk
 obtain ⟨hL0, _⟩ := hL
 have hw0 : a0.length < 9223372036854775808 := Nat.lt_succ_of_le (lens_encL hL0).1
 have hw1 : ∀ v ∈ a0, bwSector v := fun v hv => Sector_lens v ((lens_encL hL0).2 v hv)
 clear hL0
 simp only [pars, Nat.zero_add]
 iterate 3 refine rS ?_
 refine AWP.block ?_
 generalize hz1 : loopR (zbc_b1 a0) (a0.length - 0) 0 (List.replicate a0.length (default : Sector)) = z1 at hR
 refine AWP.range (zbc_b1 a0) (fun i1 s1 => ⟨[(0, encL 3 eSector a0), (3, .ref 0 3 0 s1.length), (4, .int .i64 (i1 : Int))], [.arr 180 3 s1.length (fun j => eSector (s1.getD j default))]⟩) (fun i1 s1 => s1.length = (List.replicate a0.length (default : Sector)).length) (a0.length) 0 (List.replicate a0.length (default : Sector)) [0] hz1 ot wt sm ?_
 clear hz1
 intro i1 s1 hi1 hW1 hz1
 refine rS ?_
 refine AWP.cond rfl (fun hb => ?_) (fun hb => ?_)
 ·have hlt1 : i1 < a0.length := ot
  rw [loopR_lt hlt1] at hz1; simp only [zbc_b1] at hz1
  iterate 2 refine rS ?_
  exact ⟨_, [0], hlt1, wt, hz1, sm⟩
 ·obtain rfl : i1 = a0.length := ot
  rw [loopR_ge (Nat.le_refl _)] at hz1; subst hz1; dsimp only at hR
  refine AWP.exit ?_; refine exitTo_here ?_
  refine rS ?_
  refine AWP.ret ?_
  subst hR
  exact es
end N92
def D_zbc : DF
 | [x0] => some (ownL 180 3 eSector (zbc (rdL dSector x0)), false, [wL 3 eSector dSector x0, (rdL dSector x0).length < 1099511627776, ∀ v ∈ (rdL dSector x0), bdSector v])
 | _ => none
theorem D_zbc_ok : OkD Tryz.prog 92 D_zbc := by unfold D_zbc; exact dk N92.den
end Go.Ab

namespace Go.Ab
open Go Go.Proofs
theorem ztd_id (v : Sector) : ztd v = v := by
 unfold ztd
 rfl
end Go.Ab

namespace Go.Ab
open Go Go.Proofs
theorem zbc_id (a : List Sector) : zbc a = a := by
 unfold zbc
 rw [loopR_fill (b := zbc_b1 a) (fun i => ztd (a.getD i default)) (by simp) (fun i s _ => rfl)]
 simp only [ztd_id]
 exact range_getD a
end Go.Ab

namespace Go.Ab
open Go Go.Proofs
def zm (a0 : Aid) : Aid :=
 { Number := a0.Number, Name := a0.Name, At := (zxd a0.At), Height := a0.Height, Mark := (zyd a0.Mark), Light := zzd a0.Light, Sectors := (zbc a0.Sectors), Intensity := a0.Intensity : Aid }
namespace N33
theorem DD : DOk Tryz.prog (Go.Ab.DD [(89, dP D_zxd), (90, dP D_zyd), (91, dP D_zzd), (92, dP D_zbc)]) := DD_cons D_zxd_ok.e <| DD_cons D_zyd_ok.e <| DD_cons D_zzd_ok.e <| DD_cons D_zbc_ok.e <| DD_nil _
theorem dn : type_of% (And.intro @D_zxd.eq_1 <| And.intro @D_zyd.eq_1 <| And.intro @D_zzd.eq_1 <| @D_zbc.eq_1) := by and_intros <;> intros <;> rfl
theorem ol : type_of% (@zbc_id) := @zbc_id
theorem den (a0 : Aid) (hb0 : bdAid a0) : Den Tryz.prog 33 [.agg (eAid a0)] (.agg (eAidO (zm a0))) := by
 generalize hR : zm a0 = r
 unfold zm at hR
 refine di Tryz.func33 Tryz.ntmps33 Tryz.results33 ?_
 intro c hL hc hk
 obtain ⟨hL0, _⟩ := hL
 have hw0 : bwAid a0 := Aid_lens a0 hL0
 clear hL0
 simp only [pars, Nat.zero_add]
 iterate 11 refine rS ?_
 refine AWP.ret ?_
 subst hR
 exact es
end N33
def D_zm : DF
 | [x0] => some (.agg (eAidO (zm (rdG dAid x0))), false, [wG eAid dAid x0, bdAid (rdG dAid x0)])
 | _ => none
def Dz_zm : DF
 | [x0] => some (.agg (eAidO (zm (rdG dAid x0))), true, [wG eAid dAid x0, bdAid (rdG dAid x0)])
 | _ => none
theorem D_zm_ok : OkD Tryz.prog 33 D_zm := by unfold D_zm; exact dk N33.den
theorem Dz_zm_ok : OkD Tryz.prog 33 Dz_zm := by unfold Dz_zm; exact dk N33.den
end Go.Ab

namespace Go.Ab
open Go Go.Proofs
theorem zxd_id (v : Point) : zxd v = v := by
 unfold zxd
 rfl
end Go.Ab

namespace Go.Ab
open Go Go.Proofs
theorem zyd_id (v : Mark) : zyd v = v := by
 unfold zyd
 rfl
end Go.Ab

namespace Go.Ab
open Go Go.Proofs
theorem zzd_id (v : Character) : zzd v = v := by
 unfold zzd
 simp only [zac_id]
end Go.Ab

namespace Go.Ab
open Go Go.Proofs
theorem zm_id (v : Aid) : zm v = v := by
 unfold zm
 simp only [zxd_id, zyd_id, zzd_id, zbc_id]
end Go.Ab

namespace Go.Ab
open Go Go.Proofs
def za_b1 (a0 : (List Aid)) (i1 : Nat) (s1 : List Aid) : Except ((List Aid)) (List Aid) :=
 .ok (s1.set i1 (zm (a0.getD i1 default)))
def za (a0 : (List Aid)) : (List Aid) :=
 (match loopR (za_b1 a0) (a0.length - 0) 0 (List.replicate a0.length (default : Aid)) with | .error e => e | .ok s1 => s1)
namespace N24
theorem DD : DOk Tryz.prog (Go.Ab.DD [(33, dP D_zm)]) := DD_cons D_zm_ok.e <| DD_nil _
theorem dn : type_of% (@D_zm.eq_1) := by and_intros <;> intros <;> rfl
theorem ol : type_of% (@zm_id) := @zm_id
theorem den (a0 : (List Aid)) (hb0 : a0.length < 1099511627776) (hb1 : ∀ v ∈ a0, bdAid v) (hp0 : a0.length ≤ 1048576) : Den Tryz.prog 24 [encL 16 eAid a0] (ownL 63 16 eAidO (za a0)) := by
 generalize hR : za a0 = r
 unfold za at hR
 refine di Tryz.func24 Tryz.ntmps24 Tryz.results24 ?_
 intro c hL hc hk
 obtain ⟨hL0, _⟩ := hL
 have hw0 : a0.length < 9223372036854775808 := Nat.lt_succ_of_le (lens_encL hL0).1
 have hw1 : ∀ v ∈ a0, bwAid v := fun v hv => Aid_lens v ((lens_encL hL0).2 v hv)
 clear hL0
 simp only [pars, Nat.zero_add]
 iterate 2 refine rS ?_
 refine AWP.arrS 0 (fun j => eAidO ((List.replicate a0.length (default : Aid)).getD j default)) rfl zs ?_; simp only [setE]
 refine rS ?_
 refine AWP.block ?_
 generalize hz1 : loopR (za_b1 a0) (a0.length - 0) 0 (List.replicate a0.length (default : Aid)) = z1 at hR
 refine AWP.range (za_b1 a0) (fun i1 s1 => ⟨[(0, encL 16 eAid a0), (3, .ref 0 16 0 s1.length), (4, .int .i64 (i1 : Int))], [.arr 63 16 s1.length (fun j => eAidO (s1.getD j default))]⟩) (fun i1 s1 => s1.length = (List.replicate a0.length (default : Aid)).length) (a0.length) 0 (List.replicate a0.length (default : Aid)) [0] hz1 ot wt sm ?_
 clear hz1
 intro i1 s1 hi1 hW1 hz1
 refine rS ?_
 refine AWP.cond rfl (fun hb => ?_) (fun hb => ?_)
 ·have hlt1 : i1 < a0.length := ot
  rw [loopR_lt hlt1] at hz1; simp only [za_b1] at hz1
  iterate 2 refine rS ?_
  exact ⟨_, [0], hlt1, wt, hz1, sm⟩
 ·obtain rfl : i1 = a0.length := ot
  rw [loopR_ge (Nat.le_refl _)] at hz1; subst hz1; dsimp only at hR
  refine AWP.exit ?_; refine exitTo_here ?_
  refine rS ?_
  refine AWP.ret ?_
  subst hR
  exact es
end N24
def D_za : DF
 | [x0] => some (ownL 63 16 eAidO (za (rdL dAid x0)), false, [wL 16 eAid dAid x0, (rdL dAid x0).length < 1099511627776, ∀ v ∈ (rdL dAid x0), bdAid v, (rdL dAid x0).length ≤ 1048576])
 | _ => none
theorem D_za_ok : OkD Tryz.prog 24 D_za := by unfold D_za; exact dk N24.den
end Go.Ab

namespace Go.Ab
open Go Go.Proofs
theorem za_id (a : List Aid) : za a = a := by
 unfold za
 rw [loopR_fill (b := za_b1 a) (fun i => zm (a.getD i default)) (by simp) (fun i s _ => rfl)]
 simp only [zm_id]
 exact range_getD a
end Go.Ab

namespace Go.Ab
open Go Go.Proofs
def zae (a0 : Sector) (a1 : Sector) : Bool :=
 (bif (a0.From != a1.From) then false else (bif (a0.To != a1.To) then false else (bif (a0.Color != a1.Color) then false else true)))
namespace N167
theorem DD : DOk Tryz.prog (Go.Ab.DD []) := DD_nil _
theorem den (a0 : Sector) (a1 : Sector)  : Den Tryz.prog 167 [.agg (eSector a0), .agg (eSector a1)] (.bool (zae a0 a1)) := by
 generalize hR : zae a0 a1 = r
 unfold zae at hR
 refine di Tryz.func167 Tryz.ntmps167 Tryz.results167 ?_
 intro c hL hc hk
 obtain ⟨hL0, hL1, _⟩ := hL
 have hw0 : bwSector a0 := Sector_lens a0 hL0
 have hw1 : bwSector a1 := Sector_lens a1 hL1
 clear hL0 hL1
 simp only [pars, Nat.zero_add]
 iterate 2 refine rS ?_
 refine AWP.cond rfl (fun hb => ?_) (fun hb => ?_)
 ·replace hR := ct hR
  refine rS ?_
  refine AWP.ret ?_
  subst hR
  exact es
 ·replace hR := cf hR
  refine rS ?_
  refine AWP.cond rfl (fun hb => ?_) (fun hb => ?_)
  ·replace hR := ct hR
   refine rS ?_
   refine AWP.ret ?_
   subst hR
   exact es
  ·replace hR := cf hR
   refine rS ?_
   refine AWP.cond rfl (fun hb => ?_) (fun hb => ?_)
   ·replace hR := ct hR
    refine rS ?_
    refine AWP.ret ?_
    subst hR
    exact es
   ·replace hR := cf hR
    refine rS ?_
    refine AWP.ret ?_
    subst hR
    exact es
end N167
def D_zae : DF
 | [x0, x1] => some (.bool (zae (rdG dSector x0) (rdG dSector x1)), false, [wG eSector dSector x0, wG eSector dSector x1])
 | _ => none
theorem D_zae_ok : OkD Tryz.prog 167 D_zae := by unfold D_zae; exact dk N167.den
end Go.Ab

namespace Go.Ab
open Go Go.Proofs
def zic_b1 (a0 : (List Sector)) (a1 : (List Sector)) (i1 : Nat) (s1 : Unit) : Except (Bool) (Unit) :=
 (bif (!(zae (a0.getD i1 default) (a1.getD i1 default))) then .error false else .ok ())
def zic (a0 : (List Sector)) (a1 : (List Sector)) : Bool :=
 (bif ((a0.length : Int) != (a1.length : Int)) then false else (match loopR (zic_b1 a0 a1) (a0.length - 0) 0 () with | .error e => e | .ok s1 => true))
namespace N100
theorem DD : DOk Tryz.prog (Go.Ab.DD [(167, dP D_zae)]) := DD_cons D_zae_ok.e <| DD_nil _
theorem dn : type_of% (@D_zae.eq_1) := by and_intros <;> intros <;> rfl
theorem den (a0 : (List Sector)) (a1 : (List Sector))  : Den Tryz.prog 100 [encL 3 eSector a0, encL 3 eSector a1] (.bool (zic a0 a1)) := by
 generalize hR : zic a0 a1 = r
 unfold zic at hR
 refine di Tryz.func100 Tryz.ntmps100 Tryz.results100 ?_
 intro c hL hc hk
 obtain ⟨hL0, hL1, _⟩ := hL
 have hw0 : a0.length < 9223372036854775808 := Nat.lt_succ_of_le (lens_encL hL0).1
 have hw1 : ∀ v ∈ a0, bwSector v := fun v hv => Sector_lens v ((lens_encL hL0).2 v hv)
 have hw2 : a1.length < 9223372036854775808 := Nat.lt_succ_of_le (lens_encL hL1).1
 have hw3 : ∀ v ∈ a1, bwSector v := fun v hv => Sector_lens v ((lens_encL hL1).2 v hv)
 clear hL0 hL1
 simp only [pars, Nat.zero_add]
 iterate 2 refine rS ?_
 refine AWP.cond rfl (fun hb => ?_) (fun hb => ?_)
 ·replace hR := ct hR
  refine rS ?_
  refine AWP.ret ?_
  subst hR
  exact es
 ·replace hR := cf hR
  refine rS ?_
  refine AWP.block ?_
  generalize hz1 : loopR (zic_b1 a0 a1) (a0.length - 0) 0 () = z1 at hR
  refine AWP.range (zic_b1 a0 a1) (fun i1 s1 => ⟨[(0, encL 3 eSector a0), (1, encL 3 eSector a1), (5, .int .i64 (i1 : Int))], []⟩) (fun i1 s1 => True) (a0.length) 0 () [] hz1 ot wt sm ?_
  clear hz1
  intro i1 s1 hi1 hW1 hz1
  refine rS ?_
  refine AWP.cond rfl (fun hb => ?_) (fun hb => ?_)
  ·have hlt1 : i1 < a0.length := ot
   rw [loopR_lt hlt1] at hz1; simp only [zic_b1] at hz1
   refine rD 8 ?_
   refine AWP.cond rfl (fun hb => ?_) (fun hb => ?_)
   ·simp only [hb, cond_true] at hz1
    refine rS ?_
    refine AWP.ret ?_
    subst hz1
    dsimp only at hR
    subst hR
    exact es
   ·simp only [hb, cond_false] at hz1
    refine rS ?_
    exact ⟨_, [], hlt1, wt, hz1, sm⟩
  ·obtain rfl : i1 = a0.length := ot
   rw [loopR_ge (Nat.le_refl _)] at hz1; subst hz1; dsimp only at hR
   refine AWP.exit ?_; refine exitTo_here ?_
   refine rS ?_
   refine AWP.ret ?_
   subst hR
   exact es
end N100
def D_zic : DF
 | [x0, x1] => some (.bool (zic (rdL dSector x0) (rdL dSector x1)), false, [wL 3 eSector dSector x0, wL 3 eSector dSector x1])
 | _ => none
theorem D_zic_ok : OkD Tryz.prog 100 D_zic := by unfold D_zic; exact dk N100.den
end Go.Ab

namespace Go.Ab
open Go Go.Proofs
def zbe (a0 : Point) (a1 : Point) : Bool :=
 (bif (a0.X != a1.X) then false else (bif (a0.Y != a1.Y) then false else true))
namespace N97
theorem DD : DOk Tryz.prog (Go.Ab.DD []) := DD_nil _
theorem den (a0 : Point) (a1 : Point)  : Den Tryz.prog 97 [.agg (ePoint a0), .agg (ePoint a1)] (.bool (zbe a0 a1)) := by
 generalize hR : zbe a0 a1 = r
 unfold zbe at hR
 refine di Tryz.func97 Tryz.ntmps97 Tryz.results97 ?_
 intro c hL hc hk
 clear hL
 simp only [pars, Nat.zero_add]
 iterate 2 refine rS ?_
 refine AWP.cond rfl (fun hb => ?_) (fun hb => ?_)
 ·replace hR := ct hR
  refine rS ?_
  refine AWP.ret ?_
  subst hR
  exact es
 ·replace hR := cf hR
  refine rS ?_
  refine AWP.cond rfl (fun hb => ?_) (fun hb => ?_)
  ·replace hR := ct hR
   refine rS ?_
   refine AWP.ret ?_
   subst hR
   exact es
  ·replace hR := cf hR
   refine rS ?_
   refine AWP.ret ?_
   subst hR
   exact es
end N97
def D_zbe : DF
 | [x0, x1] => some (.bool (zbe (rdG dPoint x0) (rdG dPoint x1)), false, [wG ePoint dPoint x0, wG ePoint dPoint x1])
 | _ => none
theorem D_zbe_ok : OkD Tryz.prog 97 D_zbe := by unfold D_zbe; exact dk N97.den
end Go.Ab

namespace Go.Ab
open Go Go.Proofs
def zce (a0 : Mark) (a1 : Mark) : Bool :=
 (bif (a0.Kind != a1.Kind) then false else (bif (a0.Colors != a1.Colors) then false else (bif (a0.Shape != a1.Shape) then false else (bif (a0.Topmark != a1.Topmark) then false else true))))
namespace N98
theorem DD : DOk Tryz.prog (Go.Ab.DD []) := DD_nil _
theorem den (a0 : Mark) (a1 : Mark)  : Den Tryz.prog 98 [.agg (eMark a0), .agg (eMark a1)] (.bool (zce a0 a1)) := by
 generalize hR : zce a0 a1 = r
 unfold zce at hR
 refine di Tryz.func98 Tryz.ntmps98 Tryz.results98 ?_
 intro c hL hc hk
 obtain ⟨hL0, hL1, _⟩ := hL
 have hw0 : bwMark a0 := Mark_lens a0 hL0
 have hw1 : bwMark a1 := Mark_lens a1 hL1
 clear hL0 hL1
 simp only [pars, Nat.zero_add]
 iterate 2 refine rS ?_
 refine AWP.cond rfl (fun hb => ?_) (fun hb => ?_)
 ·replace hR := ct hR
  refine rS ?_
  refine AWP.ret ?_
  subst hR
  exact es
 ·replace hR := cf hR
  refine rS ?_
  refine AWP.cond rfl (fun hb => ?_) (fun hb => ?_)
  ·replace hR := ct hR
   refine rS ?_
   refine AWP.ret ?_
   subst hR
   exact es
  ·replace hR := cf hR
   refine rS ?_
   refine AWP.cond rfl (fun hb => ?_) (fun hb => ?_)
   ·replace hR := ct hR
    refine rS ?_
    refine AWP.ret ?_
    subst hR
    exact es
   ·replace hR := cf hR
    refine rS ?_
    refine AWP.cond rfl (fun hb => ?_) (fun hb => ?_)
    ·replace hR := ct hR
     refine rS ?_
     refine AWP.ret ?_
     subst hR
     exact es
    ·replace hR := cf hR
     refine rS ?_
     refine AWP.ret ?_
     subst hR
     exact es
end N98
def D_zce : DF
 | [x0, x1] => some (.bool (zce (rdG dMark x0) (rdG dMark x1)), false, [wG eMark dMark x0, wG eMark dMark x1])
 | _ => none
theorem D_zce_ok : OkD Tryz.prog 98 D_zce := by unfold D_zce; exact dk N98.den
end Go.Ab

namespace Go.Ab
open Go Go.Proofs
def zjc_b1 (a0 : (List Int)) (a1 : (List Int)) (i1 : Nat) (s1 : Unit) : Except (Bool) (Unit) :=
 (bif ((a0.getD i1 default) != (a1.getD i1 default)) then .error false else .ok ())
def zjc (a0 : (List Int)) (a1 : (List Int)) : Bool :=
 (bif ((a0.length : Int) != (a1.length : Int)) then false else (match loopR (zjc_b1 a0 a1) (a0.length - 0) 0 () with | .error e => e | .ok s1 => true))
namespace N17
theorem DD : DOk Tryz.prog (Go.Ab.DD []) := DD_nil _
theorem den (a0 : (List Int)) (a1 : (List Int))  : Den Tryz.prog 17 [encL 1 eIi64 a0, encL 1 eIi64 a1] (.bool (zjc a0 a1)) := by
 generalize hR : zjc a0 a1 = r
 unfold zjc at hR
 refine di Tryz.func17 Tryz.ntmps17 Tryz.results17 ?_
 intro c hL hc hk
 obtain ⟨hL0, hL1, _⟩ := hL
 have hw0 : a0.length < 9223372036854775808 := Nat.lt_succ_of_le (lens_encL hL0).1
 have hw1 : a1.length < 9223372036854775808 := Nat.lt_succ_of_le (lens_encL hL1).1
 clear hL0 hL1
 simp only [pars, Nat.zero_add]
 iterate 2 refine rS ?_
 refine AWP.cond rfl (fun hb => ?_) (fun hb => ?_)
 ·replace hR := ct hR
  refine rS ?_
  refine AWP.ret ?_
  subst hR
  exact es
 ·replace hR := cf hR
  refine rS ?_
  refine AWP.block ?_
  generalize hz1 : loopR (zjc_b1 a0 a1) (a0.length - 0) 0 () = z1 at hR
  refine AWP.range (zjc_b1 a0 a1) (fun i1 s1 => ⟨[(0, encL 1 eIi64 a0), (1, encL 1 eIi64 a1), (5, .int .i64 (i1 : Int))], []⟩) (fun i1 s1 => True) (a0.length) 0 () [] hz1 ot wt sm ?_
  clear hz1
  intro i1 s1 hi1 hW1 hz1
  refine rS ?_
  refine AWP.cond rfl (fun hb => ?_) (fun hb => ?_)
  ·have hlt1 : i1 < a0.length := ot
   rw [loopR_lt hlt1] at hz1; simp only [zjc_b1] at hz1
   refine rD 8 ?_
   refine AWP.cond rfl (fun hb => ?_) (fun hb => ?_)
   ·simp only [hb, cond_true] at hz1
    refine rS ?_
    refine AWP.ret ?_
    subst hz1
    dsimp only at hR
    subst hR
    exact es
   ·simp only [hb, cond_false] at hz1
    refine rS ?_
    exact ⟨_, [], hlt1, wt, hz1, sm⟩
  ·obtain rfl : i1 = a0.length := ot
   rw [loopR_ge (Nat.le_refl _)] at hz1; subst hz1; dsimp only at hR
   refine AWP.exit ?_; refine exitTo_here ?_
   refine rS ?_
   refine AWP.ret ?_
   subst hR
   exact es
end N17
def D_zjc : DF
 | [x0, x1] => some (.bool (zjc (rdL dIi64 x0) (rdL dIi64 x1)), false, [wL 1 eIi64 dIi64 x0, wL 1 eIi64 dIi64 x1])
 | _ => none
theorem D_zjc_ok : OkD Tryz.prog 17 D_zjc := by unfold D_zjc; exact dk N17.den
end Go.Ab

namespace Go.Ab
open Go Go.Proofs
def zde (a0 : Character) (a1 : Character) : Bool :=
 (bif (a0.Kind != a1.Kind) then false else (bif (!(zjc a0.Group a1.Group)) then false else (bif (a0.Letter != a1.Letter) then false else (bif (a0.Colors != a1.Colors) then false else (bif (a0.Period != a1.Period) then false else true)))))
namespace N99
theorem DD : DOk Tryz.prog (Go.Ab.DD [(17, dP D_zjc)]) := DD_cons D_zjc_ok.e <| DD_nil _
theorem dn : type_of% (@D_zjc.eq_1) := by and_intros <;> intros <;> rfl
theorem den (a0 : Character) (a1 : Character)  : Den Tryz.prog 99 [.agg (eCharacter a0), .agg (eCharacter a1)] (.bool (zde a0 a1)) := by
 generalize hR : zde a0 a1 = r
 unfold zde at hR
 refine di Tryz.func99 Tryz.ntmps99 Tryz.results99 ?_
 intro c hL hc hk
 obtain ⟨hL0, hL1, _⟩ := hL
 have hw0 : bwCharacter a0 := Character_lens a0 hL0
 have hw1 : bwCharacter a1 := Character_lens a1 hL1
 clear hL0 hL1
 simp only [pars, Nat.zero_add]
 iterate 2 refine rS ?_
 refine AWP.cond rfl (fun hb => ?_) (fun hb => ?_)
 ·replace hR := ct hR
  refine rS ?_
  refine AWP.ret ?_
  subst hR
  exact es
 ·replace hR := cf hR
  refine rS ?_
  refine AWP.cond rfl (fun hb => ?_) (fun hb => ?_)
  ·replace hR := ct hR
   refine rS ?_
   refine AWP.ret ?_
   subst hR
   exact es
  ·replace hR := cf hR
   refine rS ?_
   refine AWP.cond rfl (fun hb => ?_) (fun hb => ?_)
   ·replace hR := ct hR
    refine rS ?_
    refine AWP.ret ?_
    subst hR
    exact es
   ·replace hR := cf hR
    refine rS ?_
    refine AWP.cond rfl (fun hb => ?_) (fun hb => ?_)
    ·replace hR := ct hR
     refine rS ?_
     refine AWP.ret ?_
     subst hR
     exact es
    ·replace hR := cf hR
     refine rS ?_
     refine AWP.cond rfl (fun hb => ?_) (fun hb => ?_)
     ·replace hR := ct hR
      refine rS ?_
      refine AWP.ret ?_
      subst hR
      exact es
     ·replace hR := cf hR
      refine rS ?_
      refine AWP.ret ?_
      subst hR
      exact es
end N99
def D_zde : DF
 | [x0, x1] => some (.bool (zde (rdG dCharacter x0) (rdG dCharacter x1)), false, [wG eCharacter dCharacter x0, wG eCharacter dCharacter x1])
 | _ => none
theorem D_zde_ok : OkD Tryz.prog 99 D_zde := by unfold D_zde; exact dk N99.den
end Go.Ab

namespace Go.Ab
open Go Go.Proofs
def zcc (a0 : Aid) (a1 : Aid) : Bool :=
 (bif (a0.Number != a1.Number) then false else (bif (a0.Name != a1.Name) then false else (bif (!(zbe a0.At a1.At)) then false else (bif (a0.Height != a1.Height) then false else (bif (!(zce a0.Mark a1.Mark)) then false else (bif (!(zde a0.Light a1.Light)) then false else (bif (!(zic a0.Sectors a1.Sectors)) then false else (bif (a0.Intensity != a1.Intensity) then false else true))))))))
namespace N35
theorem DD : DOk Tryz.prog (Go.Ab.DD [(100, dP D_zic), (97, dP D_zbe), (98, dP D_zce), (99, dP D_zde)]) := DD_cons D_zic_ok.e <| DD_cons D_zbe_ok.e <| DD_cons D_zce_ok.e <| DD_cons D_zde_ok.e <| DD_nil _
theorem dn : type_of% (And.intro @D_zic.eq_1 <| And.intro @D_zbe.eq_1 <| And.intro @D_zce.eq_1 <| @D_zde.eq_1) := by and_intros <;> intros <;> rfl
theorem den (a0 : Aid) (a1 : Aid)  : Den Tryz.prog 35 [.agg (eAid a0), .agg (eAid a1)] (.bool (zcc a0 a1)) := by
 generalize hR : zcc a0 a1 = r
 unfold zcc at hR
 refine di Tryz.func35 Tryz.ntmps35 Tryz.results35 ?_
 intro c hL hc hk
 obtain ⟨hL0, hL1, _⟩ := hL
 have hw0 : bwAid a0 := Aid_lens a0 hL0
 have hw1 : bwAid a1 := Aid_lens a1 hL1
 clear hL0 hL1
 simp only [pars, Nat.zero_add]
 iterate 2 refine rS ?_
 refine AWP.cond rfl (fun hb => ?_) (fun hb => ?_)
 ·replace hR := ct hR
  refine rS ?_
  refine AWP.ret ?_
  subst hR
  exact es
 ·replace hR := cf hR
  refine rS ?_
  refine AWP.cond rfl (fun hb => ?_) (fun hb => ?_)
  ·replace hR := ct hR
   refine rS ?_
   refine AWP.ret ?_
   subst hR
   exact es
  ·replace hR := cf hR
   refine rS ?_
   refine AWP.cond rfl (fun hb => ?_) (fun hb => ?_)
   ·replace hR := ct hR
    refine rS ?_
    refine AWP.ret ?_
    subst hR
    exact es
   ·replace hR := cf hR
    refine rS ?_
    refine AWP.cond rfl (fun hb => ?_) (fun hb => ?_)
    ·replace hR := ct hR
     refine rS ?_
     refine AWP.ret ?_
     subst hR
     exact es
    ·replace hR := cf hR
     refine rS ?_
     refine AWP.cond rfl (fun hb => ?_) (fun hb => ?_)
     ·replace hR := ct hR
      refine rS ?_
      refine AWP.ret ?_
      subst hR
      exact es
     ·replace hR := cf hR
      refine rS ?_
      refine AWP.cond rfl (fun hb => ?_) (fun hb => ?_)
      ·replace hR := ct hR
       refine rS ?_
       refine AWP.ret ?_
       subst hR
       exact es
      ·replace hR := cf hR
       refine rS ?_
       refine AWP.cond rfl (fun hb => ?_) (fun hb => ?_)
       ·replace hR := ct hR
        refine rS ?_
        refine AWP.ret ?_
        subst hR
        exact es
       ·replace hR := cf hR
        refine rS ?_
        refine AWP.cond rfl (fun hb => ?_) (fun hb => ?_)
        ·replace hR := ct hR
         refine rS ?_
         refine AWP.ret ?_
         subst hR
         exact es
        ·replace hR := cf hR
         refine rS ?_
         refine AWP.ret ?_
         subst hR
         exact es
end N35
def D_zcc : DF
 | [x0, x1] => some (.bool (zcc (rdG dAid x0) (rdG dAid x1)), false, [wG eAid dAid x0, wG eAid dAid x1])
 | _ => none
theorem D_zcc_ok : OkD Tryz.prog 35 D_zcc := by unfold D_zcc; exact dk N35.den
end Go.Ab

namespace Go.Ab
open Go Go.Proofs
def zr_b1 (a0 : (List Aid)) (a1 : (List Aid)) (i1 : Nat) (s1 : Unit) : Except (Bool) (Unit) :=
 (bif (!(zcc (a0.getD i1 default) (a1.getD i1 default))) then .error false else .ok ())
def zr (a0 : (List Aid)) (a1 : (List Aid)) : Bool :=
 (bif ((a0.length : Int) != (a1.length : Int)) then false else (match loopR (zr_b1 a0 a1) (a0.length - 0) 0 () with | .error e => e | .ok s1 => true))
namespace N27
theorem DD : DOk Tryz.prog (Go.Ab.DD [(35, dP D_zcc)]) := DD_cons D_zcc_ok.e <| DD_nil _
theorem dn : type_of% (@D_zcc.eq_1) := by and_intros <;> intros <;> rfl
theorem den (a0 : (List Aid)) (a1 : (List Aid))  : Den Tryz.prog 27 [encL 16 eAid a0, encL 16 eAid a1] (.bool (zr a0 a1)) := by
 generalize hR : zr a0 a1 = r
 unfold zr at hR
 refine di Tryz.func27 Tryz.ntmps27 Tryz.results27 ?_
 intro c hL hc hk
 obtain ⟨hL0, hL1, _⟩ := hL
 have hw0 : a0.length < 9223372036854775808 := Nat.lt_succ_of_le (lens_encL hL0).1
 have hw1 : ∀ v ∈ a0, bwAid v := fun v hv => Aid_lens v ((lens_encL hL0).2 v hv)
 have hw2 : a1.length < 9223372036854775808 := Nat.lt_succ_of_le (lens_encL hL1).1
 have hw3 : ∀ v ∈ a1, bwAid v := fun v hv => Aid_lens v ((lens_encL hL1).2 v hv)
 clear hL0 hL1
 simp only [pars, Nat.zero_add]
 iterate 2 refine rS ?_
 refine AWP.cond rfl (fun hb => ?_) (fun hb => ?_)
 ·replace hR := ct hR
  refine rS ?_
  refine AWP.ret ?_
  subst hR
  exact es
 ·replace hR := cf hR
  refine rS ?_
  refine AWP.block ?_
  generalize hz1 : loopR (zr_b1 a0 a1) (a0.length - 0) 0 () = z1 at hR
  refine AWP.range (zr_b1 a0 a1) (fun i1 s1 => ⟨[(0, encL 16 eAid a0), (1, encL 16 eAid a1), (5, .int .i64 (i1 : Int))], []⟩) (fun i1 s1 => True) (a0.length) 0 () [] hz1 ot wt sm ?_
  clear hz1
  intro i1 s1 hi1 hW1 hz1
  refine rS ?_
  refine AWP.cond rfl (fun hb => ?_) (fun hb => ?_)
  ·have hlt1 : i1 < a0.length := ot
   rw [loopR_lt hlt1] at hz1; simp only [zr_b1] at hz1
   refine rD 8 ?_
   refine AWP.cond rfl (fun hb => ?_) (fun hb => ?_)
   ·simp only [hb, cond_true] at hz1
    refine rS ?_
    refine AWP.ret ?_
    subst hz1
    dsimp only at hR
    subst hR
    exact es
   ·simp only [hb, cond_false] at hz1
    refine rS ?_
    exact ⟨_, [], hlt1, wt, hz1, sm⟩
  ·obtain rfl : i1 = a0.length := ot
   rw [loopR_ge (Nat.le_refl _)] at hz1; subst hz1; dsimp only at hR
   refine AWP.exit ?_; refine exitTo_here ?_
   refine rS ?_
   refine AWP.ret ?_
   subst hR
   exact es
end N27
def D_zr : DF
 | [x0, x1] => some (.bool (zr (rdL dAid x0) (rdL dAid x1)), false, [wL 16 eAid dAid x0, wL 16 eAid dAid x1])
 | _ => none
theorem D_zr_ok : OkD Tryz.prog 27 D_zr := by unfold D_zr; exact dk N27.den
end Go.Ab

namespace Go.Ab
open Go Go.Proofs
theorem zbe_dec (a b : Point) : zbe a b = decide (a = b) := by
 unfold zbe
 skip
 by_cases h : a = b
 ·subst h; simp
 ·rw [decide_eq_false h]
  cases a; cases b
  simp only [Point.mk.injEq] at h
  simp only [bne_iff_ne, Bool.cond_eq_ite, ite_eq_right_iff]
  (repeat' split) <;> simp_all
end Go.Ab

namespace Go.Ab
open Go Go.Proofs
theorem zce_dec (a b : Mark) : zce a b = decide (a = b) := by
 unfold zce
 skip
 by_cases h : a = b
 ·subst h; simp
 ·rw [decide_eq_false h]
  cases a; cases b
  simp only [Mark.mk.injEq] at h
  simp only [bne_iff_ne, Bool.cond_eq_ite, ite_eq_right_iff]
  (repeat' split) <;> simp_all
end Go.Ab

namespace Go.Ab
open Go Go.Proofs
theorem zjc_dec (a b : List Int) : zjc a b = decide (a = b) := by
 unfold zjc
 by_cases hl : a.length = b.length
 ·have h1 : ((a.length : Int) != (b.length : Int)) = false := by simp [hl]
  rw [h1, cond_false, loopR_any (b := zjc_b1 a b) (fun j => !decide (a.getD j default = b.getD j default)) false (fun j u _ _ => by simp only [zjc_b1, ned])]
  simp only [Nat.sub_zero, Nat.zero_add]
  rw [any_ne a b hl]
  by_cases h : a = b <;> simp [h]
 ·have h1 : ((a.length : Int) != (b.length : Int)) = true := by simp; omega
  have h2 : ¬ a = b := fun e => hl (by rw [e])
  rw [h1, cond_true, decide_eq_false h2]
end Go.Ab

namespace Go.Ab
open Go Go.Proofs
theorem zde_dec (a b : Character) : zde a b = decide (a = b) := by
 unfold zde
 simp only [zjc_dec]
 by_cases h : a = b
 ·subst h; simp
 ·rw [decide_eq_false h]
  cases a; cases b
  simp only [Character.mk.injEq] at h
  simp only [bne_iff_ne, Bool.cond_eq_ite, ite_eq_right_iff]
  (repeat' split) <;> simp_all
end Go.Ab

namespace Go.Ab
open Go Go.Proofs
theorem zae_dec (a b : Sector) : zae a b = decide (a = b) := by
 unfold zae
 skip
 by_cases h : a = b
 ·subst h; simp
 ·rw [decide_eq_false h]
  cases a; cases b
  simp only [Sector.mk.injEq] at h
  simp only [bne_iff_ne, Bool.cond_eq_ite, ite_eq_right_iff]
  (repeat' split) <;> simp_all
end Go.Ab

namespace Go.Ab
open Go Go.Proofs
theorem zic_dec (a b : List Sector) : zic a b = decide (a = b) := by
 unfold zic
 by_cases hl : a.length = b.length
 ·have h1 : ((a.length : Int) != (b.length : Int)) = false := by simp [hl]
  rw [h1, cond_false, loopR_any (b := zic_b1 a b) (fun j => !decide (a.getD j default = b.getD j default)) false (fun j u _ _ => by simp only [zic_b1, zae_dec])]
  simp only [Nat.sub_zero, Nat.zero_add]
  rw [any_ne a b hl]
  by_cases h : a = b <;> simp [h]
 ·have h1 : ((a.length : Int) != (b.length : Int)) = true := by simp; omega
  have h2 : ¬ a = b := fun e => hl (by rw [e])
  rw [h1, cond_true, decide_eq_false h2]
end Go.Ab

namespace Go.Ab
open Go Go.Proofs
theorem zcc_dec (a b : Aid) : zcc a b = decide (a = b) := by
 unfold zcc
 simp only [zbe_dec, zce_dec, zde_dec, zic_dec]
 by_cases h : a = b
 ·subst h; simp
 ·rw [decide_eq_false h]
  cases a; cases b
  simp only [Aid.mk.injEq] at h
  simp only [bne_iff_ne, Bool.cond_eq_ite, ite_eq_right_iff]
  (repeat' split) <;> simp_all
end Go.Ab

namespace Go.Ab
open Go Go.Proofs
theorem zr_dec (a b : List Aid) : zr a b = decide (a = b) := by
 unfold zr
 by_cases hl : a.length = b.length
 ·have h1 : ((a.length : Int) != (b.length : Int)) = false := by simp [hl]
  rw [h1, cond_false, loopR_any (b := zr_b1 a b) (fun j => !decide (a.getD j default = b.getD j default)) false (fun j u _ _ => by simp only [zr_b1, zcc_dec])]
  simp only [Nat.sub_zero, Nat.zero_add]
  rw [any_ne a b hl]
  by_cases h : a = b <;> simp [h]
 ·have h1 : ((a.length : Int) != (b.length : Int)) = true := by simp; omega
  have h2 : ¬ a = b := fun e => hl (by rw [e])
  rw [h1, cond_true, decide_eq_false h2]
end Go.Ab

namespace Go.Ab
open Go Go.Proofs
def zub (a0 : Mark) (a1 : Int) : Int :=
 (bif decide ((IntKind.wrap .i64 (a1 - (a0.Colors.length : Int))) < 0) then (-1) else (bif decide ((IntKind.wrap .i64 ((IntKind.wrap .i64 (a1 - (a0.Colors.length : Int))) - (a0.Shape.length : Int))) < 0) then (-1) else (bif decide ((IntKind.wrap .i64 ((IntKind.wrap .i64 ((IntKind.wrap .i64 (a1 - (a0.Colors.length : Int))) - (a0.Shape.length : Int))) - (a0.Topmark.length : Int))) < 0) then (-1) else IntKind.wrap .i64 ((IntKind.wrap .i64 ((IntKind.wrap .i64 (a1 - (a0.Colors.length : Int))) - (a0.Shape.length : Int))) - (a0.Topmark.length : Int)))))
namespace N84
theorem DD : DOk Tryz.prog (Go.Ab.DD []) := DD_nil _
theorem den (a0 : Mark) (a1 : Int)  : Den Tryz.prog 84 [.agg (eMark a0), .int .i64 a1] (.int .i64 (zub a0 a1)) := by
 generalize hR : zub a0 a1 = r
 unfold zub at hR
 refine di Tryz.func84 Tryz.ntmps84 Tryz.results84 ?_
 intro c hL hc hk
 obtain ⟨hL0, hL1, _⟩ := hL
 have hw0 : bwMark a0 := Mark_lens a0 hL0
 clear hL0 hL1
 simp only [pars, Nat.zero_add]
 iterate 3 refine rS ?_
 refine AWP.cond rfl (fun hb => ?_) (fun hb => ?_)
 ·replace hR := ct hR
  refine rS ?_
  refine AWP.ret ?_
  subst hR
  exact es
 ·replace hR := cf hR
  iterate 2 refine rS ?_
  refine AWP.cond rfl (fun hb => ?_) (fun hb => ?_)
  ·replace hR := ct hR
   refine rS ?_
   refine AWP.ret ?_
   subst hR
   exact es
  ·replace hR := cf hR
   iterate 2 refine rS ?_
   refine AWP.cond rfl (fun hb => ?_) (fun hb => ?_)
   ·replace hR := ct hR
    refine rS ?_
    refine AWP.ret ?_
    subst hR
    exact es
   ·replace hR := cf hR
    refine rS ?_
    refine AWP.ret ?_
    subst hR
    exact es
end N84
def D_zub : DF
 | [x0, x1] => some (.int .i64 (zub (rdG dMark x0) (rdI x1)), false, [wG eMark dMark x0, wI .i64 x1])
 | _ => none
theorem D_zub_ok : OkD Tryz.prog 84 D_zub := by unfold D_zub; exact dk N84.den
end Go.Ab
