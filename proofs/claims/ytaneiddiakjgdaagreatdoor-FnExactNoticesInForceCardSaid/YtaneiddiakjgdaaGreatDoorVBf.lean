/- A part of a proof: walks of functions and lemmas of our own. No conditions. -/
import Derived.Test.YtaneiddiakjgdaaGreatDoorVBb
import Derived.Test.YtaneiddiakjgdaaGreatDoorVBe
import Derived.Test.YtaneiddiakjgdaaGreatDoorVBa
import Derived.Test.YtaneiddiakjgdaaGreatDoorVAl
import Derived.Test.YtaneiddiakjgdaaGreatDoorVAn
import Derived.Test.YtaneiddiakjgdaaGreatDoorVAi
import Derived.Test.YtaneiddiakjgdaaGreatDoorVBc
import Derived.Test.YtaneiddiakjgdaaGreatDoorVAp
set_option linter.unusedSectionVars false
set_option linter.unusedVariables false
set_option linter.unusedSimpArgs false
set_option maxHeartbeats 1000000
namespace Go.Ab
open Go Go.Proofs
def noticeStep (x : Notice) (k : Int) : Int × Notice :=
 (IntKind.wrap .i64 (((zk ((x.Aid).Sectors) (IntKind.wrap .i64 ((IntKind.wrap .i64 ((IntKind.wrap .i64 (((za (((x.Aid).Light).Group) (IntKind.wrap .i64 ((IntKind.wrap .i64 ((IntKind.wrap .i64 ((IntKind.wrap .i64 ((IntKind.wrap .i64 ((IntKind.wrap .i64 ((IntKind.wrap .i64 ((IntKind.wrap .i64 ((IntKind.wrap .i64 ((IntKind.wrap .i64 ((IntKind.wrap .i64 ((IntKind.wrap .i64 ((IntKind.wrap .i64 ((IntKind.wrap .i64 (k + 1)) + 1)) + 1)) + 1)) + 1)) + 1)) + 1)) + 1)) + 1)) + 1)) + 1)) + 1)) + 1)) + 1))).1) + 1)) + 1)) + 1))).1) + 1), { Number := k, Day := IntKind.wrap .i64 (k + 1), Kind := IntKind.wrap .i64 ((IntKind.wrap .i64 (k + 1)) + 1), Target := IntKind.wrap .i64 ((IntKind.wrap .i64 ((IntKind.wrap .i64 (k + 1)) + 1)) + 1), Aid := { Number := IntKind.wrap .i64 ((IntKind.wrap .i64 ((IntKind.wrap .i64 ((IntKind.wrap .i64 (k + 1)) + 1)) + 1)) + 1), Name := (zf (IntKind.wrap .i64 ((IntKind.wrap .i64 ((IntKind.wrap .i64 ((IntKind.wrap .i64 ((IntKind.wrap .i64 (k + 1)) + 1)) + 1)) + 1)) + 1))), At := { X := IntKind.wrap .i64 ((IntKind.wrap .i64 ((IntKind.wrap .i64 ((IntKind.wrap .i64 ((IntKind.wrap .i64 ((IntKind.wrap .i64 (k + 1)) + 1)) + 1)) + 1)) + 1)) + 1), Y := IntKind.wrap .i64 ((IntKind.wrap .i64 ((IntKind.wrap .i64 ((IntKind.wrap .i64 ((IntKind.wrap .i64 ((IntKind.wrap .i64 ((IntKind.wrap .i64 (k + 1)) + 1)) + 1)) + 1)) + 1)) + 1)) + 1) : Point }, Height := IntKind.wrap .i64 ((IntKind.wrap .i64 ((IntKind.wrap .i64 ((IntKind.wrap .i64 ((IntKind.wrap .i64 ((IntKind.wrap .i64 ((IntKind.wrap .i64 ((IntKind.wrap .i64 (k + 1)) + 1)) + 1)) + 1)) + 1)) + 1)) + 1)) + 1), Mark := { Kind := IntKind.wrap .i64 ((IntKind.wrap .i64 ((IntKind.wrap .i64 ((IntKind.wrap .i64 ((IntKind.wrap .i64 ((IntKind.wrap .i64 ((IntKind.wrap .i64 ((IntKind.wrap .i64 ((IntKind.wrap .i64 (k + 1)) + 1)) + 1)) + 1)) + 1)) + 1)) + 1)) + 1)) + 1), Colors := (zf (IntKind.wrap .i64 ((IntKind.wrap .i64 ((IntKind.wrap .i64 ((IntKind.wrap .i64 ((IntKind.wrap .i64 ((IntKind.wrap .i64 ((IntKind.wrap .i64 ((IntKind.wrap .i64 ((IntKind.wrap .i64 ((IntKind.wrap .i64 (k + 1)) + 1)) + 1)) + 1)) + 1)) + 1)) + 1)) + 1)) + 1)) + 1))), Shape := (zf (IntKind.wrap .i64 ((IntKind.wrap .i64 ((IntKind.wrap .i64 ((IntKind.wrap .i64 ((IntKind.wrap .i64 ((IntKind.wrap .i64 ((IntKind.wrap .i64 ((IntKind.wrap .i64 ((IntKind.wrap .i64 ((IntKind.wrap .i64 ((IntKind.wrap .i64 (k + 1)) + 1)) + 1)) + 1)) + 1)) + 1)) + 1)) + 1)) + 1)) + 1)) + 1))), Topmark := (zf (IntKind.wrap .i64 ((IntKind.wrap .i64 ((IntKind.wrap .i64 ((IntKind.wrap .i64 ((IntKind.wrap .i64 ((IntKind.wrap .i64 ((IntKind.wrap .i64 ((IntKind.wrap .i64 ((IntKind.wrap .i64 ((IntKind.wrap .i64 ((IntKind.wrap .i64 ((IntKind.wrap .i64 (k + 1)) + 1)) + 1)) + 1)) + 1)) + 1)) + 1)) + 1)) + 1)) + 1)) + 1)) + 1))) : Mark }, Light := { Kind := IntKind.wrap .i64 ((IntKind.wrap .i64 ((IntKind.wrap .i64 ((IntKind.wrap .i64 ((IntKind.wrap .i64 ((IntKind.wrap .i64 ((IntKind.wrap .i64 ((IntKind.wrap .i64 ((IntKind.wrap .i64 ((IntKind.wrap .i64 ((IntKind.wrap .i64 ((IntKind.wrap .i64 ((IntKind.wrap .i64 (k + 1)) + 1)) + 1)) + 1)) + 1)) + 1)) + 1)) + 1)) + 1)) + 1)) + 1)) + 1)) + 1), Group := (za (((x.Aid).Light).Group) (IntKind.wrap .i64 ((IntKind.wrap .i64 ((IntKind.wrap .i64 ((IntKind.wrap .i64 ((IntKind.wrap .i64 ((IntKind.wrap .i64 ((IntKind.wrap .i64 ((IntKind.wrap .i64 ((IntKind.wrap .i64 ((IntKind.wrap .i64 ((IntKind.wrap .i64 ((IntKind.wrap .i64 ((IntKind.wrap .i64 ((IntKind.wrap .i64 (k + 1)) + 1)) + 1)) + 1)) + 1)) + 1)) + 1)) + 1)) + 1)) + 1)) + 1)) + 1)) + 1)) + 1))).2, Letter := (zf ((za (((x.Aid).Light).Group) (IntKind.wrap .i64 ((IntKind.wrap .i64 ((IntKind.wrap .i64 ((IntKind.wrap .i64 ((IntKind.wrap .i64 ((IntKind.wrap .i64 ((IntKind.wrap .i64 ((IntKind.wrap .i64 ((IntKind.wrap .i64 ((IntKind.wrap .i64 ((IntKind.wrap .i64 ((IntKind.wrap .i64 ((IntKind.wrap .i64 ((IntKind.wrap .i64 (k + 1)) + 1)) + 1)) + 1)) + 1)) + 1)) + 1)) + 1)) + 1)) + 1)) + 1)) + 1)) + 1)) + 1))).1)), Colors := (zf (IntKind.wrap .i64 (((za (((x.Aid).Light).Group) (IntKind.wrap .i64 ((IntKind.wrap .i64 ((IntKind.wrap .i64 ((IntKind.wrap .i64 ((IntKind.wrap .i64 ((IntKind.wrap .i64 ((IntKind.wrap .i64 ((IntKind.wrap .i64 ((IntKind.wrap .i64 ((IntKind.wrap .i64 ((IntKind.wrap .i64 ((IntKind.wrap .i64 ((IntKind.wrap .i64 ((IntKind.wrap .i64 (k + 1)) + 1)) + 1)) + 1)) + 1)) + 1)) + 1)) + 1)) + 1)) + 1)) + 1)) + 1)) + 1)) + 1))).1) + 1))), Period := IntKind.wrap .i64 ((IntKind.wrap .i64 (((za (((x.Aid).Light).Group) (IntKind.wrap .i64 ((IntKind.wrap .i64 ((IntKind.wrap .i64 ((IntKind.wrap .i64 ((IntKind.wrap .i64 ((IntKind.wrap .i64 ((IntKind.wrap .i64 ((IntKind.wrap .i64 ((IntKind.wrap .i64 ((IntKind.wrap .i64 ((IntKind.wrap .i64 ((IntKind.wrap .i64 ((IntKind.wrap .i64 ((IntKind.wrap .i64 (k + 1)) + 1)) + 1)) + 1)) + 1)) + 1)) + 1)) + 1)) + 1)) + 1)) + 1)) + 1)) + 1)) + 1))).1) + 1)) + 1) : Character }, Sectors := (zk ((x.Aid).Sectors) (IntKind.wrap .i64 ((IntKind.wrap .i64 ((IntKind.wrap .i64 (((za (((x.Aid).Light).Group) (IntKind.wrap .i64 ((IntKind.wrap .i64 ((IntKind.wrap .i64 ((IntKind.wrap .i64 ((IntKind.wrap .i64 ((IntKind.wrap .i64 ((IntKind.wrap .i64 ((IntKind.wrap .i64 ((IntKind.wrap .i64 ((IntKind.wrap .i64 ((IntKind.wrap .i64 ((IntKind.wrap .i64 ((IntKind.wrap .i64 ((IntKind.wrap .i64 (k + 1)) + 1)) + 1)) + 1)) + 1)) + 1)) + 1)) + 1)) + 1)) + 1)) + 1)) + 1)) + 1)) + 1))).1) + 1)) + 1)) + 1))).2, Intensity := ((zk ((x.Aid).Sectors) (IntKind.wrap .i64 ((IntKind.wrap .i64 ((IntKind.wrap .i64 (((za (((x.Aid).Light).Group) (IntKind.wrap .i64 ((IntKind.wrap .i64 ((IntKind.wrap .i64 ((IntKind.wrap .i64 ((IntKind.wrap .i64 ((IntKind.wrap .i64 ((IntKind.wrap .i64 ((IntKind.wrap .i64 ((IntKind.wrap .i64 ((IntKind.wrap .i64 ((IntKind.wrap .i64 ((IntKind.wrap .i64 ((IntKind.wrap .i64 ((IntKind.wrap .i64 (k + 1)) + 1)) + 1)) + 1)) + 1)) + 1)) + 1)) + 1)) + 1)) + 1)) + 1)) + 1)) + 1)) + 1))).1) + 1)) + 1)) + 1))).1) : Aid } : Notice })
theorem markNoticeS_R (a : List Notice) (k : Int) : zvc a k = markR noticeStep a k := by
 unfold zvc
 have := markR_loop noticeStep (zvc_b1 a k) (fun i s => rfl) a [] k
 simp only [List.length_nil, List.nil_append, Nat.sub_zero] at this ⊢
 rw [this]
theorem noticeStep_k (x : Notice) (k : Int) (hx : aidB x.Aid) (h0 : 0 ≤ k) (h1 : k ≤ 281474976710656) : (noticeStep x k).1 = k + 18 + x.Aid.Light.Group.length + 3 * x.Aid.Sectors.length := by
 obtain ⟨b1, b2⟩ := hx
 unfold noticeStep
 simp (disch := omega) only [wr1]
 have g1 : k + 1 + 1 + 1 + 1 + 1 + 1 + 1 + 1 + 1 + 1 + 1 + 1 + 1 + 1 = k + 14 := by omega
 rw [g1, za_k _ _ (by omega) (by omega) (by omega)]
 simp (disch := omega) only [wr1]
 rw [markSectorS_k _ _ (by omega) (by omega) (by omega)]
 simp (disch := omega) only [wr1]
 omega
theorem noticeStep_rng (x : Notice) (k : Int) (hx : aidB x.Aid) (h0 : 0 ≤ k) (h1 : k ≤ 281474976710656) : k ≤ (noticeStep x k).1 ∧ (noticeStep x k).1 ≤ k + 4194404 := by
 rw [noticeStep_k x k hx h0 h1]
 obtain ⟨b1, b2⟩ := hx
 omega
theorem markNoticeS_rng (a : List Notice) (k : Int) (ha : ∀ x ∈ a, aidB x.Aid) (hl : a.length ≤ 1048576) (h0 : 0 ≤ k) (h1 : k ≤ 140737488355328) : k ≤ (zvc a k).1 ∧ (zvc a k).1 ≤ k + 4194404 * a.length := by
 rw [markNoticeS_R]
 exact markR_le noticeStep (fun x => aidB x.Aid) 4194404 281474976710656 (by omega) noticeStep_rng a k ha h0 (by omega)
end Go.Ab

namespace Go.Ab
open Go Go.Proofs
def zff (a0 : Notice) : Notice :=
 { Number := a0.Number, Day := a0.Day, Kind := a0.Kind, Target := a0.Target, Aid := zpc a0.Aid : Notice }
namespace N52
theorem DD : DOk Tryz.prog (Go.Ab.DD [(33, dP D_zpc)]) := DD_cons D_zpc_ok.e <| DD_nil _
theorem dn : type_of% (@D_zpc.eq_1) := by and_intros <;> intros <;> rfl
theorem den (a0 : Notice) (hb0 : bdNotice a0) : Den Tryz.prog 52 [.agg (eNotice a0)] (.agg (eNoticeO (zff a0))) := by
 generalize hR : zff a0 = r
 unfold zff at hR
 refine di Tryz.func52 Tryz.ntmps52 Tryz.results52 ?_
 intro c hL hc hk
 obtain ⟨hL0, _⟩ := hL
 have hw0 : bwNotice a0 := Notice_lens a0 hL0
 clear hL0
 simp only [pars, Nat.zero_add]
 iterate 8 refine rS ?_
 refine AWP.ret ?_
 subst hR
 exact es
end N52
def D_zff : DF
 | [x0] => some (.agg (eNoticeO (zff (rdG dNotice x0))), false, [wG eNotice dNotice x0, bdNotice (rdG dNotice x0)])
 | _ => none
theorem D_zff_ok : OkD Tryz.prog 52 D_zff := by unfold D_zff; exact dk N52.den
end Go.Ab

namespace Go.Ab
open Go Go.Proofs
def zi_b1 (a0 : (List Notice)) (i1 : Nat) (s1 : List Notice) : Except ((List Notice)) (List Notice) :=
 .ok (s1.set i1 (zff (a0.getD i1 default)))
def zi (a0 : (List Notice)) : (List Notice) :=
 (match loopR (zi_b1 a0) (a0.length - 0) 0 (List.replicate a0.length (default : Notice)) with | .error e => e | .ok s1 => s1)
namespace N15
theorem DD : DOk Tryz.prog (Go.Ab.DD [(52, dP D_zff)]) := DD_cons D_zff_ok.e <| DD_nil _
theorem dn : type_of% (@D_zff.eq_1) := by and_intros <;> intros <;> rfl
theorem den (a0 : (List Notice)) (hb0 : a0.length < 1099511627776) (hb1 : ∀ v ∈ a0, bdNotice v) (hp0 : a0.length ≤ 1048576) : Den Tryz.prog 15 [encL 20 eNotice a0] (ownL 90 20 eNoticeO (zi a0)) := by
 generalize hR : zi a0 = r
 unfold zi at hR
 refine di Tryz.func15 Tryz.ntmps15 Tryz.results15 ?_
 intro c hL hc hk
 obtain ⟨hL0, _⟩ := hL
 have hw0 : a0.length < 9223372036854775808 := Nat.lt_succ_of_le (lens_encL hL0).1
 have hw1 : ∀ v ∈ a0, bwNotice v := fun v hv => Notice_lens v ((lens_encL hL0).2 v hv)
 clear hL0
 simp only [pars, Nat.zero_add]
 iterate 2 refine rS ?_
 refine AWP.arrS 0 (fun j => eNoticeO ((List.replicate a0.length (default : Notice)).getD j default)) rfl zs ?_; simp only [setE]
 refine rS ?_
 refine AWP.block ?_
 generalize hz1 : loopR (zi_b1 a0) (a0.length - 0) 0 (List.replicate a0.length (default : Notice)) = z1 at hR
 refine AWP.range (zi_b1 a0) (fun i1 s1 => ⟨[(0, encL 20 eNotice a0), (3, .ref 0 20 0 s1.length), (4, .int .i64 (i1 : Int))], [.arr 90 20 s1.length (fun j => eNoticeO (s1.getD j default))]⟩) (fun i1 s1 => s1.length = (List.replicate a0.length (default : Notice)).length) (a0.length) 0 (List.replicate a0.length (default : Notice)) [0] hz1 ot wt sm ?_
 clear hz1
 intro i1 s1 hi1 hW1 hz1
 refine rS ?_
 refine AWP.cond rfl (fun hb => ?_) (fun hb => ?_)
 ·have hlt1 : i1 < a0.length := ot
  rw [loopR_lt hlt1] at hz1; simp only [zi_b1] at hz1
  iterate 2 refine rS ?_
  exact ⟨_, [0], hlt1, wt, hz1, sm⟩
 ·obtain rfl : i1 = a0.length := ot
  rw [loopR_ge (Nat.le_refl _)] at hz1; subst hz1; dsimp only at hR
  refine AWP.exit ?_; refine exitTo_here ?_
  refine rS ?_
  refine AWP.ret ?_
  subst hR
  exact es
end N15
def D_zi : DF
 | [x0] => some (ownL 90 20 eNoticeO (zi (rdL dNotice x0)), false, [wL 20 eNotice dNotice x0, (rdL dNotice x0).length < 1099511627776, ∀ v ∈ (rdL dNotice x0), bdNotice v, (rdL dNotice x0).length ≤ 1048576])
 | _ => none
theorem D_zi_ok : OkD Tryz.prog 15 D_zi := by unfold D_zi; exact dk N15.den
end Go.Ab

namespace Go.Ab
open Go Go.Proofs
theorem zff_id (v : Notice) : zff v = v := by
 unfold zff
 simp only [zpc_id]
end Go.Ab

namespace Go.Ab
open Go Go.Proofs
theorem zi_id (a : List Notice) : zi a = a := by
 unfold zi
 rw [loopR_fill (b := zi_b1 a) (fun i => zff (a.getD i default)) (by simp) (fun i s _ => rfl)]
 simp only [zff_id]
 exact range_getD a
end Go.Ab

namespace Go.Ab
open Go Go.Proofs
def ztf (a0 : Notice) (a1 : Notice) : Bool :=
 (bif (a0.Number != a1.Number) then false else (bif (a0.Day != a1.Day) then false else (bif (a0.Kind != a1.Kind) then false else (bif (a0.Target != a1.Target) then false else (bif (!(ztc a0.Aid a1.Aid)) then false else true)))))
namespace N54
theorem DD : DOk Tryz.prog (Go.Ab.DD [(35, dP D_ztc)]) := DD_cons D_ztc_ok.e <| DD_nil _
theorem dn : type_of% (@D_ztc.eq_1) := by and_intros <;> intros <;> rfl
theorem den (a0 : Notice) (a1 : Notice)  : Den Tryz.prog 54 [.agg (eNotice a0), .agg (eNotice a1)] (.bool (ztf a0 a1)) := by
 generalize hR : ztf a0 a1 = r
 unfold ztf at hR
 refine di Tryz.func54 Tryz.ntmps54 Tryz.results54 ?_
 intro c hL hc hk
 obtain ⟨hL0, hL1, _⟩ := hL
 have hw0 : bwNotice a0 := Notice_lens a0 hL0
 have hw1 : bwNotice a1 := Notice_lens a1 hL1
 clear hL0 hL1
 simp only [pars, Nat.zero_add]
 iterate 2 refine rS ?_
 refine AWP.cond rfl (fun hb => ?_) (fun hb => ?_)
 ·replace hR := ct hR
  refine rS ?_
  refine AWP.ret ?_
  subst hR
  exact es
 ·replace hR := cf hR
  refine rS ?_
  refine AWP.cond rfl (fun hb => ?_) (fun hb => ?_)
  ·replace hR := ct hR
   refine rS ?_
   refine AWP.ret ?_
   subst hR
   exact es
  ·replace hR := cf hR
   refine rS ?_
   refine AWP.cond rfl (fun hb => ?_) (fun hb => ?_)
   ·replace hR := ct hR
    refine rS ?_
    refine AWP.ret ?_
    subst hR
    exact es
   ·replace hR := cf hR
    refine rS ?_
    refine AWP.cond rfl (fun hb => ?_) (fun hb => ?_)
    ·replace hR := ct hR
     refine rS ?_
     refine AWP.ret ?_
     subst hR
     exact es
    ·replace hR := cf hR
     refine rS ?_
     refine AWP.cond rfl (fun hb => ?_) (fun hb => ?_)
     ·replace hR := ct hR
      refine rS ?_
      refine AWP.ret ?_
      subst hR
      exact es
     ·replace hR := cf hR
      refine rS ?_
      refine AWP.ret ?_
      subst hR
      exact es
end N54
def D_ztf : DF
 | [x0, x1] => some (.bool (ztf (rdG dNotice x0) (rdG dNotice x1)), false, [wG eNotice dNotice x0, wG eNotice dNotice x1])
 | _ => none
theorem D_ztf_ok : OkD Tryz.prog 54 D_ztf := by unfold D_ztf; exact dk N54.den
end Go.Ab

namespace Go.Ab
open Go Go.Proofs
def zxb_b1 (a0 : (List Notice)) (a1 : (List Notice)) (i1 : Nat) (s1 : Unit) : Except (Bool) (Unit) :=
 (bif (!(ztf (a0.getD i1 default) (a1.getD i1 default))) then .error false else .ok ())
def zxb (a0 : (List Notice)) (a1 : (List Notice)) : Bool :=
 (bif ((a0.length : Int) != (a1.length : Int)) then false else (match loopR (zxb_b1 a0 a1) (a0.length - 0) 0 () with | .error e => e | .ok s1 => true))
namespace N18
theorem DD : DOk Tryz.prog (Go.Ab.DD [(54, dP D_ztf)]) := DD_cons D_ztf_ok.e <| DD_nil _
theorem dn : type_of% (@D_ztf.eq_1) := by and_intros <;> intros <;> rfl
theorem den (a0 : (List Notice)) (a1 : (List Notice))  : Den Tryz.prog 18 [encL 20 eNotice a0, encL 20 eNotice a1] (.bool (zxb a0 a1)) := by
 generalize hR : zxb a0 a1 = r
 unfold zxb at hR
 refine di Tryz.func18 Tryz.ntmps18 Tryz.results18 ?_
 intro c hL hc hk
 obtain ⟨hL0, hL1, _⟩ := hL
 have hw0 : a0.length < 9223372036854775808 := Nat.lt_succ_of_le (lens_encL hL0).1
 have hw1 : ∀ v ∈ a0, bwNotice v := fun v hv => Notice_lens v ((lens_encL hL0).2 v hv)
 have hw2 : a1.length < 9223372036854775808 := Nat.lt_succ_of_le (lens_encL hL1).1
 have hw3 : ∀ v ∈ a1, bwNotice v := fun v hv => Notice_lens v ((lens_encL hL1).2 v hv)
 clear hL0 hL1
 simp only [pars, Nat.zero_add]
 iterate 2 refine rS ?_
 refine AWP.cond rfl (fun hb => ?_) (fun hb => ?_)
 ·replace hR := ct hR
  refine rS ?_
  refine AWP.ret ?_
  subst hR
  exact es
 ·replace hR := cf hR
  refine rS ?_
  refine AWP.block ?_
  generalize hz1 : loopR (zxb_b1 a0 a1) (a0.length - 0) 0 () = z1 at hR
  refine AWP.range (zxb_b1 a0 a1) (fun i1 s1 => ⟨[(0, encL 20 eNotice a0), (1, encL 20 eNotice a1), (5, .int .i64 (i1 : Int))], []⟩) (fun i1 s1 => True) (a0.length) 0 () [] hz1 ot wt sm ?_
  clear hz1
  intro i1 s1 hi1 hW1 hz1
  refine rS ?_
  refine AWP.cond rfl (fun hb => ?_) (fun hb => ?_)
  ·have hlt1 : i1 < a0.length := ot
   rw [loopR_lt hlt1] at hz1; simp only [zxb_b1] at hz1
   refine rD 8 ?_
   refine AWP.cond rfl (fun hb => ?_) (fun hb => ?_)
   ·simp only [hb, cond_true] at hz1
    refine rS ?_
    refine AWP.ret ?_
    subst hz1
    dsimp only at hR
    subst hR
    exact es
   ·simp only [hb, cond_false] at hz1
    refine rS ?_
    exact ⟨_, [], hlt1, wt, hz1, sm⟩
  ·obtain rfl : i1 = a0.length := ot
   rw [loopR_ge (Nat.le_refl _)] at hz1; subst hz1; dsimp only at hR
   refine AWP.exit ?_; refine exitTo_here ?_
   refine rS ?_
   refine AWP.ret ?_
   subst hR
   exact es
end N18
def D_zxb : DF
 | [x0, x1] => some (.bool (zxb (rdL dNotice x0) (rdL dNotice x1)), false, [wL 20 eNotice dNotice x0, wL 20 eNotice dNotice x1])
 | _ => none
theorem D_zxb_ok : OkD Tryz.prog 18 D_zxb := by unfold D_zxb; exact dk N18.den
end Go.Ab

namespace Go.Ab
open Go Go.Proofs
theorem ztf_dec (a b : Notice) : ztf a b = decide (a = b) := by
 unfold ztf
 simp only [ztc_dec]
 by_cases h : a = b
 ·subst h; simp
 ·rw [decide_eq_false h]
  cases a; cases b
  simp only [Notice.mk.injEq] at h
  simp only [bne_iff_ne, Bool.cond_eq_ite, ite_eq_right_iff]
  (repeat' split) <;> simp_all
end Go.Ab

namespace Go.Ab
open Go Go.Proofs
theorem zxb_dec (a b : List Notice) : zxb a b = decide (a = b) := by
 unfold zxb
 by_cases hl : a.length = b.length
 ·have h1 : ((a.length : Int) != (b.length : Int)) = false := by simp [hl]
  rw [h1, cond_false, loopR_any (b := zxb_b1 a b) (fun j => !decide (a.getD j default = b.getD j default)) false (fun j u _ _ => by simp only [zxb_b1, ztf_dec])]
  simp only [Nat.sub_zero, Nat.zero_add]
  rw [any_ne a b hl]
  by_cases h : a = b <;> simp [h]
 ·have h1 : ((a.length : Int) != (b.length : Int)) = true := by simp; omega
  have h2 : ¬ a = b := fun e => hl (by rw [e])
  rw [h1, cond_true, decide_eq_false h2]
end Go.Ab

namespace Go.Ab
open Go Go.Proofs
def zce (a0 : Notice) (a1 : Int) : Int :=
 (bif decide ((zgb a0.Aid a1) < 0) then (-1) else (zgb a0.Aid a1))
namespace N50
theorem DD : DOk Tryz.prog (Go.Ab.DD [(31, dP D_zgb)]) := DD_cons D_zgb_ok.e <| DD_nil _
theorem dn : type_of% (@D_zgb.eq_1) := by and_intros <;> intros <;> rfl
theorem den (a0 : Notice) (a1 : Int)  : Den Tryz.prog 50 [.agg (eNotice a0), .int .i64 a1] (.int .i64 (zce a0 a1)) := by
 generalize hR : zce a0 a1 = r
 unfold zce at hR
 refine di Tryz.func50 Tryz.ntmps50 Tryz.results50 ?_
 intro c hL hc hk
 obtain ⟨hL0, hL1, _⟩ := hL
 have hw0 : bwNotice a0 := Notice_lens a0 hL0
 clear hL0 hL1
 simp only [pars, Nat.zero_add]
 iterate 3 refine rS ?_
 refine AWP.cond rfl (fun hb => ?_) (fun hb => ?_)
 ·replace hR := ct hR
  refine rS ?_
  refine AWP.ret ?_
  subst hR
  exact es
 ·replace hR := cf hR
  refine rS ?_
  refine AWP.ret ?_
  subst hR
  exact es
end N50
def D_zce : DF
 | [x0, x1] => some (.int .i64 (zce (rdG dNotice x0) (rdI x1)), false, [wG eNotice dNotice x0, wI .i64 x1])
 | _ => none
theorem D_zce_ok : OkD Tryz.prog 50 D_zce := by unfold D_zce; exact dk N50.den
end Go.Ab

namespace Go.Ab
open Go Go.Proofs
theorem zce_facts (x : Notice) (n : Int) (h0 : -1 ≤ n) (h1 : n ≤ 1048576) (hx : bwNotice x) : -1 ≤ zce x n ∧ zce x n ≤ n ∧ (¬ zce x n < 0 → smNotice x) := by
 have b0 := hx
 unfold zce
 have f0 := zgb_facts x.Aid (n) (by omega) (by omega) b0
 by_cases c0 : zgb x.Aid (n) < 0
 ·rw [decide_eq_true c0]; exact ⟨by simp, by simpa using h0, fun h => absurd (by simp) h⟩
 rw [decide_eq_false c0]
 simp only [cond_false]
 exact ⟨by omega, by omega, fun _ => f0.2.2 c0⟩
end Go.Ab

namespace Go.Ab
open Go Go.Proofs
def zz_b1 (a0 : (List Notice)) (a1 : Int) (i1 : Nat) (s1 : Int) : Except (Int) (Int) :=
 (bif decide ((zce (a0.getD i1 default) s1) < 0) then .error (-1) else .ok (zce (a0.getD i1 default) s1))
def zz (a0 : (List Notice)) (a1 : Int) : Int :=
 (bif decide ((IntKind.wrap .i64 (a1 - (a0.length : Int))) < 0) then (-1) else (match loopR (zz_b1 a0 a1) (a0.length - 0) 0 (IntKind.wrap .i64 (a1 - (a0.length : Int))) with | .error e => e | .ok s1 => s1))
namespace N13
theorem DD : DOk Tryz.prog (Go.Ab.DD [(50, dP D_zce)]) := DD_cons D_zce_ok.e <| DD_nil _
theorem dn : type_of% (@D_zce.eq_1) := by and_intros <;> intros <;> rfl
theorem den (a0 : (List Notice)) (a1 : Int)  : Den Tryz.prog 13 [encL 20 eNotice a0, .int .i64 a1] (.int .i64 (zz a0 a1)) := by
 generalize hR : zz a0 a1 = r
 unfold zz at hR
 refine di Tryz.func13 Tryz.ntmps13 Tryz.results13 ?_
 intro c hL hc hk
 obtain ⟨hL0, hL1, _⟩ := hL
 have hw0 : a0.length < 9223372036854775808 := Nat.lt_succ_of_le (lens_encL hL0).1
 have hw1 : ∀ v ∈ a0, bwNotice v := fun v hv => Notice_lens v ((lens_encL hL0).2 v hv)
 clear hL0 hL1
 simp only [pars, Nat.zero_add]
 iterate 3 refine rS ?_
 refine AWP.cond rfl (fun hb => ?_) (fun hb => ?_)
 ·replace hR := ct hR
  refine rS ?_
  refine AWP.ret ?_
  subst hR
  exact es
 ·replace hR := cf hR
  refine rS ?_
  refine AWP.block ?_
  generalize hz1 : loopR (zz_b1 a0 a1) (a0.length - 0) 0 (IntKind.wrap .i64 (a1 - (a0.length : Int))) = z1 at hR
  refine AWP.range (zz_b1 a0 a1) (fun i1 s1 => ⟨[(0, encL 20 eNotice a0), (1, .int .i64 s1), (5, .int .i64 (i1 : Int))], []⟩) (fun i1 s1 => True) (a0.length) 0 (IntKind.wrap .i64 (a1 - (a0.length : Int))) [] hz1 ot wt sm ?_
  clear hz1
  intro i1 s1 hi1 hW1 hz1
  refine rS ?_
  refine AWP.cond rfl (fun hb => ?_) (fun hb => ?_)
  ·have hlt1 : i1 < a0.length := ot
   rw [loopR_lt hlt1] at hz1; simp only [zz_b1] at hz1
   iterate 2 refine rS ?_
   refine AWP.cond rfl (fun hb => ?_) (fun hb => ?_)
   ·simp only [hb, cond_true] at hz1
    refine rS ?_
    refine AWP.ret ?_
    subst hz1
    dsimp only at hR
    subst hR
    exact es
   ·simp only [hb, cond_false] at hz1
    refine rS ?_
    exact ⟨_, [], hlt1, wt, hz1, sm⟩
  ·obtain rfl : i1 = a0.length := ot
   rw [loopR_ge (Nat.le_refl _)] at hz1; subst hz1; dsimp only at hR
   refine AWP.exit ?_; refine exitTo_here ?_
   refine rS ?_
   refine AWP.ret ?_
   subst hR
   exact es
end N13
def D_zz : DF
 | [x0, x1] => some (.int .i64 (zz (rdL dNotice x0) (rdI x1)), false, [wL 20 eNotice dNotice x0, wI .i64 x1])
 | _ => none
theorem D_zz_ok : OkD Tryz.prog 13 D_zz := by unfold D_zz; exact dk N13.den
end Go.Ab

namespace Go.Ab
open Go Go.Proofs
theorem zz_facts (a : List Notice) (n : Int) (h0 : -1 ≤ n) (h1 : n ≤ 1048576) (hl : a.length < 9223372036854775808) (hx : ∀ v ∈ a, bwNotice v) :
  -1 ≤ zz a n ∧ zz a n ≤ n ∧ (¬ zz a n < 0 → a.length ≤ 1048576 ∧ ∀ v ∈ a, smNotice v) := by
 unfold zz
 rw [show IntKind.wrap .i64 (n - (a.length : Int)) = n - a.length from by rw [IntKind.wrap_i64]; omega]
 by_cases c : n - (a.length : Int) < 0
 ·rw [decide_eq_true c]; exact ⟨by simp, by simpa using h0, fun h => absurd (by simp) h⟩
 ·rw [decide_eq_false c]
  simp only [cond_false]
  split
  ·rename_i e h
   obtain ⟨j, t, _, _, h3⟩ := loopR_error h
   simp only [zz_b1] at h3
   have : e = -1 := by
    cases hq : decide (zce (a.getD j default) t < 0) with
    | true => rw [hq] at h3; simpa using h3.symm
    | false => rw [hq] at h3; simp at h3
   omega
  ·rename_i s h
   have := loopR_inv (b := zz_b1 a n) (fun i s => -1 ≤ s ∧ s ≤ n - a.length ∧ ∀ j, j < i → smNotice (a.getD j default)) ⟨by omega, by omega, by intro j hj; omega⟩ (by
    intro j u v h1 h2 ⟨h3, h4, h5⟩ h6
    simp only [zz_b1] at h6
    have hb : bwNotice (a.getD j default) := bd_getD hx (by decide) j
    have hf := zce_facts (a.getD j default) u h3 (by omega) hb
    cases hq : decide (zce (a.getD j default) u < 0) with
    | true => rw [hq] at h6; simp at h6
    | false =>
     rw [hq] at h6
     simp only [cond_false, Except.ok.injEq] at h6
     subst h6
     refine ⟨by omega, by omega, fun q hq2 => ?_⟩
     by_cases hqj : q = j
     ·subst hqj; exact hf.2.2 (of_decide_eq_false hq)
     ·exact h5 q (by omega)) h
   refine ⟨by omega, by omega, fun _ => ⟨by omega, fun v hv => ?_⟩⟩
   obtain ⟨i, hi, rfl⟩ := List.getElem_of_mem hv
   have := this.2.2 i (by omega)
   simpa [List.getD_eq_getElem?_getD, hi] using this
end Go.Ab

namespace Go.Ab
open Go Go.Proofs
theorem markNoticeS_le (a : List Notice) (k : Int) (h : k ≤ 9223372036854775807) : (zvc a k).1 ≤ 9223372036854775807 := by
 unfold zvc
 obtain ⟨t, h1, h2⟩ := loopR_total (b := zvc_b1 a k) (fun _ s => s.1 ≤ 9223372036854775807) (k := a.length - 0) (i := 0) (s := (k, a)) h (by
  intro j u _ _ h
  exact ⟨_, rfl, wrap_le _⟩)
 rw [h1]
 exact h2
theorem markNoticeS_len (a : List Notice) (k : Int) : (zvc a k).2.length = a.length := by
 unfold zvc
 obtain ⟨t, h1, h2⟩ := loopR_total (b := zvc_b1 a k) (fun _ s => s.2.length = a.length) (k := a.length - 0) (i := 0) (s := (k, a)) rfl (by
  intro j u _ _ h
  exact ⟨_, rfl, by simpa using h⟩)
 rw [h1]
 exact h2
theorem markNoticeS_sub (a : List Notice) (k : Int) : subL (zvc a k).2 0 a.length = (zvc a k).2 := by
 rw [← markNoticeS_len a k]; exact subL_all _
end Go.Ab
