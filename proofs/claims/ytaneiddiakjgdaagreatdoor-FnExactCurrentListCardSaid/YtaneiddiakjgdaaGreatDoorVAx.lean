/- A part of a proof: walks of functions and lemmas of our own. No conditions. -/
import Derived.Test.YtaneiddiakjgdaaGreatDoorVAl
import Derived.Test.YtaneiddiakjgdaaGreatDoorVAv
set_option linter.unusedSectionVars false
set_option linter.unusedVariables false
set_option linter.unusedSimpArgs false
set_option maxHeartbeats 1000000
namespace Go.Ab
open Go Go.Proofs
def zmc (a0 : Int) : Bool :=
 (ze a0 0 99999)
namespace N70
theorem DD : DOk Tryz.prog (Go.Ab.DD [(137, dP D_ze)]) := DD_cons D_ze_ok.e <| DD_nil _
theorem dn : type_of% (@D_ze.eq_1) := by and_intros <;> intros <;> rfl
theorem ol : type_of% (@ze.eq_1) := @ze.eq_1
theorem den (a0 : Int)  : Den Tryz.prog 70 [.int .i64 a0] (.bool (zmc a0)) := by
 generalize hR : zmc a0 = r
 unfold zmc at hR
 refine di Tryz.func70 Tryz.ntmps70 Tryz.results70 ?_
 intro c hL hc hk
 clear hL
 simp only [pars, Nat.zero_add]
 iterate 2 refine rS ?_
 refine AWP.ret ?_
 subst hR
 exact es
end N70
def D_zmc : DF
 | [x0] => some (.bool (zmc (rdI x0)), false, [wI .i64 x0])
 | _ => none
theorem D_zmc_ok : OkD Tryz.prog 70 D_zmc := by unfold D_zmc; exact dk N70.den
end Go.Ab

namespace Go.Ab
open Go Go.Proofs
def zac_b1 (a0 : (List Notice)) (a1 : Int) (a2 : Int) (i1 : Nat) (s1 : Unit) : Except (Bool) (Unit) :=
 (bif (((((a0.getD i1 default).Kind) == 4) && (((a0.getD i1 default).Target) == a1)) && decide (((a0.getD i1 default).Day) ≤ a2)) then .error true else .ok ())
def zac (a0 : (List Notice)) (a1 : Int) (a2 : Int) : Bool :=
 (match loopR (zac_b1 a0 a1 a2) (a0.length - 0) 0 () with | .error e => e | .ok s1 => false)
namespace N138
theorem DD : DOk Tryz.prog (Go.Ab.DD []) := DD_nil _
theorem den (a0 : (List Notice)) (a1 : Int) (a2 : Int)  : Den Tryz.prog 138 [encL 20 eNotice a0, .int .i64 a1, .int .i64 a2] (.bool (zac a0 a1 a2)) := by
 generalize hR : zac a0 a1 a2 = r
 unfold zac at hR
 refine di Tryz.func138 Tryz.ntmps138 Tryz.results138 ?_
 intro c hL hc hk
 obtain ⟨hL0, hL1, hL2, _⟩ := hL
 have hw0 : a0.length < 9223372036854775808 := Nat.lt_succ_of_le (lens_encL hL0).1
 have hw1 : ∀ v ∈ a0, bwNotice v := fun v hv => Notice_lens v ((lens_encL hL0).2 v hv)
 clear hL0 hL1 hL2
 simp only [pars, Nat.zero_add]
 iterate 2 refine rS ?_
 refine AWP.block ?_
 generalize hz1 : loopR (zac_b1 a0 a1 a2) (a0.length - 0) 0 () = z1 at hR
 refine AWP.range (zac_b1 a0 a1 a2) (fun i1 s1 => ⟨[(0, encL 20 eNotice a0), (1, .int .i64 a1), (2, .int .i64 a2), (7, .int .i64 (i1 : Int))], []⟩) (fun i1 s1 => True) (a0.length) 0 () [] hz1 ot wt sm ?_
 clear hz1
 intro i1 s1 hi1 hW1 hz1
 refine rS ?_
 refine AWP.cond rfl (fun hb => ?_) (fun hb => ?_)
 ·have hlt1 : i1 < a0.length := ot
  rw [loopR_lt hlt1] at hz1; simp only [zac_b1] at hz1
  refine rS ?_
  refine AWP.cond rfl (fun hb => ?_) (fun hb => ?_)
  ·simp only [hb, cond_true] at hz1
   refine rS ?_
   refine AWP.ret ?_
   subst hz1
   dsimp only at hR
   subst hR
   exact es
  ·simp only [hb, cond_false] at hz1
   refine rS ?_
   exact ⟨_, [], hlt1, wt, hz1, sm⟩
 ·obtain rfl : i1 = a0.length := ot
  rw [loopR_ge (Nat.le_refl _)] at hz1; subst hz1; dsimp only at hR
  refine AWP.exit ?_; refine exitTo_here ?_
  refine rS ?_
  refine AWP.ret ?_
  subst hR
  exact es
end N138
def D_zac : DF
 | [x0, x1, x2] => some (.bool (zac (rdL dNotice x0) (rdI x1) (rdI x2)), false, [wL 20 eNotice dNotice x0, wI .i64 x1, wI .i64 x2])
 | _ => none
theorem D_zac_ok : OkD Tryz.prog 138 D_zac := by unfold D_zac; exact dk N138.den
end Go.Ab

namespace Go.Ab
open Go Go.Proofs
def zwd_b1 (a0 : (List Notice)) (a1 : Notice) (i1 : Nat) (s1 : Unit) : Except (Bool) (Unit) :=
 (bif (((a0.getD i1 default).Number) == a1.Target) then .error ((((a0.getD i1 default).Kind) != 4) && (!(zac a0 a1.Target 99999))) else .ok ())
def zwd (a0 : (List Notice)) (a1 : Notice) : Bool :=
 (bif (a1.Kind != 4) then true else (match loopR (zwd_b1 a0 a1) (a0.length - 0) 0 () with | .error e => e | .ok s1 => false))
namespace N121
theorem DD : DOk Tryz.prog (Go.Ab.DD [(138, dP D_zac)]) := DD_cons D_zac_ok.e <| DD_nil _
theorem dn : type_of% (@D_zac.eq_1) := by and_intros <;> intros <;> rfl
theorem den (a0 : (List Notice)) (a1 : Notice)  : Den Tryz.prog 121 [encL 20 eNotice a0, .ep (eNotice a1)] (.bool (zwd a0 a1)) := by
 generalize hR : zwd a0 a1 = r
 unfold zwd at hR
 refine di Tryz.func121 Tryz.ntmps121 Tryz.results121 ?_
 intro c hL hc hk
 obtain ⟨hL0, hL1, _⟩ := hL
 have hw0 : a0.length < 9223372036854775808 := Nat.lt_succ_of_le (lens_encL hL0).1
 have hw1 : ∀ v ∈ a0, bwNotice v := fun v hv => Notice_lens v ((lens_encL hL0).2 v hv)
 have hw2 : bwNotice a1 := Notice_lens a1 hL1
 clear hL0 hL1
 simp only [pars, Nat.zero_add]
 iterate 2 refine rS ?_
 refine AWP.cond rfl (fun hb => ?_) (fun hb => ?_)
 ·replace hR := ct hR
  refine rS ?_
  refine AWP.ret ?_
  subst hR
  exact es
 ·replace hR := cf hR
  refine rS ?_
  refine AWP.block ?_
  generalize hz1 : loopR (zwd_b1 a0 a1) (a0.length - 0) 0 () = z1 at hR
  refine AWP.range (zwd_b1 a0 a1) (fun i1 s1 => ⟨[(0, encL 20 eNotice a0), (1, .ep (eNotice a1)), (5, .int .i64 (i1 : Int))], []⟩) (fun i1 s1 => True) (a0.length) 0 () [] hz1 ot wt sm ?_
  clear hz1
  intro i1 s1 hi1 hW1 hz1
  refine rS ?_
  refine AWP.cond rfl (fun hb => ?_) (fun hb => ?_)
  ·have hlt1 : i1 < a0.length := ot
   rw [loopR_lt hlt1] at hz1; simp only [zwd_b1] at hz1
   refine rD 9 ?_
   refine AWP.cond rfl (fun hb => ?_) (fun hb => ?_)
   ·simp only [hb, cond_true] at hz1
    refine rS ?_
    refine AWP.ret ?_
    subst hz1
    dsimp only at hR
    subst hR
    exact es
   ·simp only [hb, cond_false] at hz1
    refine rS ?_
    exact ⟨_, [], hlt1, wt, hz1, sm⟩
  ·obtain rfl : i1 = a0.length := ot
   rw [loopR_ge (Nat.le_refl _)] at hz1; subst hz1; dsimp only at hR
   refine AWP.exit ?_; refine exitTo_here ?_
   refine rS ?_
   refine AWP.ret ?_
   subst hR
   exact es
end N121
def D_zwd : DF
 | [x0, x1] => some (.bool (zwd (rdL dNotice x0) (rdP dNotice x1)), false, [wL 20 eNotice dNotice x0, wP eNotice dNotice x1])
 | _ => none
theorem D_zwd_ok : OkD Tryz.prog 121 D_zwd := by unfold D_zwd; exact dk N121.den
end Go.Ab

namespace Go.Ab
open Go Go.Proofs
def zue (a0 : (List Notice)) (a1 : Int) (a2 : Int) : Bool :=
 ((decide (((a0.getD ((a1).toNat) default).Day) ≤ a2) && (((a0.getD ((a1).toNat) default).Kind) != 4)) && (!(zac a0 ((a0.getD ((a1).toNat) default).Number) a2)))
namespace N71
theorem DD : DOk Tryz.prog (Go.Ab.DD [(138, dP D_zac)]) := DD_cons D_zac_ok.e <| DD_nil _
theorem dn : type_of% (@D_zac.eq_1) := by and_intros <;> intros <;> rfl
theorem den (a0 : (List Notice)) (a1 : Int) (a2 : Int) (hp0 : 0 ≤ a1) (hp1 : a1 < a0.length) : Den Tryz.prog 71 [encL 20 eNotice a0, .int .i64 a1, .int .i64 a2] (.bool (zue a0 a1 a2)) := by
 generalize hR : zue a0 a1 a2 = r
 unfold zue at hR
 refine di Tryz.func71 Tryz.ntmps71 Tryz.results71 ?_
 intro c hL hc hk
 obtain ⟨hL0, hL1, hL2, _⟩ := hL
 have hw0 : a0.length < 9223372036854775808 := Nat.lt_succ_of_le (lens_encL hL0).1
 have hw1 : ∀ v ∈ a0, bwNotice v := fun v hv => Notice_lens v ((lens_encL hL0).2 v hv)
 clear hL0 hL1 hL2
 simp only [pars, Nat.zero_add]
 iterate 2 refine rS ?_
 refine AWP.ret ?_
 subst hR
 exact es
end N71
def D_zue : DF
 | [x0, x1, x2] => some (.bool (zue (rdL dNotice x0) (rdI x1) (rdI x2)), false, [wL 20 eNotice dNotice x0, wI .i64 x1, wI .i64 x2, 0 ≤ (rdI x1), (rdI x1) < (rdL dNotice x0).length])
 | _ => none
theorem D_zue_ok : OkD Tryz.prog 71 D_zue := by unfold D_zue; exact dk N71.den
end Go.Ab
