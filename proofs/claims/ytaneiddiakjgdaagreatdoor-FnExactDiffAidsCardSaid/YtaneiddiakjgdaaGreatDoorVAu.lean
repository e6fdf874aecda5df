/- A part of a proof: walks of functions and lemmas of our own. No conditions. -/
import Derived.Test.YtaneiddiakjgdaaGreatDoorVAl
import Derived.Test.YtaneiddiakjgdaaGreatDoorVAr
import Derived.Test.YtaneiddiakjgdaaGreatDoorVAk
import Derived.Test.YtaneiddiakjgdaaGreatDoorVAs
set_option linter.unusedSectionVars false
set_option linter.unusedVariables false
set_option linter.unusedSimpArgs false
set_option maxHeartbeats 1000000
namespace Go.Ab
open Go Go.Proofs
def zlh (a0 : Int) : Bool :=
 (zd a0 1 3)
namespace N182
theorem DD : DOk Tryz.prog (Go.Ab.DD [(139, dP D_zd)]) := DD_cons D_zd_ok.e <| DD_nil _
theorem dn : type_of% (@D_zd.eq_1) := by and_intros <;> intros <;> rfl
theorem ol : type_of% (@zd.eq_1) := @zd.eq_1
theorem den (a0 : Int)  : Den Tryz.prog 182 [.int .i64 a0] (.bool (zlh a0)) := by
 generalize hR : zlh a0 = r
 unfold zlh at hR
 refine di Tryz.func182 Tryz.ntmps182 Tryz.results182 ?_
 intro c hL hc hk
 clear hL
 simp only [pars, Nat.zero_add]
 iterate 2 refine rS ?_
 refine AWP.ret ?_
 subst hR
 exact es
end N182
def D_zlh : DF
 | [x0] => some (.bool (zlh (rdI x0)), false, [wI .i64 x0])
 | _ => none
theorem D_zlh_ok : OkD Tryz.prog 182 D_zlh := by unfold D_zlh; exact dk N182.den
end Go.Ab

namespace Go.Ab
open Go Go.Proofs
def zxc (a0 : (List Aid)) (a1 : Aid) : (Bool × Bool) :=
 ((zj a0 a1.Number).2, ((zj a0 a1.Number).2 && (zqe (a0.getD (((zj a0 a1.Number).1).toNat) default) a1)))
namespace N80
theorem DD : DOk Tryz.prog (Go.Ab.DD [(143, dP D_zqe), (94, dP D_zj)]) := DD_cons D_zqe_ok.e <| DD_cons D_zj_ok.e <| DD_nil _
theorem dn : type_of% (And.intro @D_zqe.eq_1 <| @D_zj.eq_1) := by and_intros <;> intros <;> rfl
theorem gr {p : Prop} (h : p := by (grind [zj_ix]); first | done | fail) : p := h
theorem den (a0 : (List Aid)) (a1 : Aid)  : Den Tryz.prog 80 [encL 16 eAid a0, .agg (eAid a1)] (.tup [.bool ((zxc a0 a1).1), .bool ((zxc a0 a1).2)]) := by
 generalize hR : zxc a0 a1 = r
 unfold zxc at hR
 refine di Tryz.func80 Tryz.ntmps80 Tryz.results80 ?_
 intro c hL hc hk
 obtain ⟨hL0, hL1, _⟩ := hL
 have hw0 : a0.length < 9223372036854775808 := Nat.lt_succ_of_le (lens_encL hL0).1
 have hw1 : ∀ v ∈ a0, bwAid v := fun v hv => Aid_lens v ((lens_encL hL0).2 v hv)
 have hw2 : bwAid a1 := Aid_lens a1 hL1
 clear hL0 hL1
 simp only [pars, Nat.zero_add]
 have hix := zj_ix a0 a1.Number (by omega)
 iterate 2 refine rS ?_
 refine AWP.seq ?_
 refine AWP.regP mixed G_ok DD hc 11 [0, 1, 2, 3, 4, 5, 6, 7, 8, 9] (.alt 10 [] [9] .leaf .stop) (by kernel_rfl) (by kernel_rfl) (by kernel_rfl) (fun K hK => ?_); simp only [rootP, runN, runP, recheck, nthO, ea, absV, absVL, cput, gv, sv, dn, reduceCtorEq, reduceIte, Nat.reduceBEq, Nat.reduceAdd, Nat.reduceEqDiff, Nat.reduceLT, Nat.reduceLeDiff, Nat.reduceMul, Nat.reduceSub, BEq.rfl, beq_self_eq_true, Int.reduceToNat]
 repeat' apply And.intro
 all_goals first | refine hK _ ?_ | exact ot
 all_goals clear hK K
 refine AWP.ret ?_
 subst hR
 exact es
end N80
def D_zxc : DF
 | [x0, x1] => some (.tup [.bool ((zxc (rdL dAid x0) (rdG dAid x1)).1), .bool ((zxc (rdL dAid x0) (rdG dAid x1)).2)], false, [wL 16 eAid dAid x0, wG eAid dAid x1])
 | _ => none
theorem D_zxc_ok : OkD Tryz.prog 80 D_zxc := by unfold D_zxc; exact dk N80.den
end Go.Ab
