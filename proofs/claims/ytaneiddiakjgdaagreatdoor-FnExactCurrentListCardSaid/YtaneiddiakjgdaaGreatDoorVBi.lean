/- A part of a proof: walks of functions and lemmas of our own. No conditions. -/
import Derived.Test.YtaneiddiakjgdaaGreatDoorVAl
import Derived.Test.YtaneiddiakjgdaaGreatDoorVBe
import Derived.Test.YtaneiddiakjgdaaGreatDoorVAt
import Derived.Test.YtaneiddiakjgdaaGreatDoorVBa
import Derived.Test.YtaneiddiakjgdaaGreatDoorVBd
import Derived.Test.YtaneiddiakjgdaaGreatDoorVAk
import Derived.Test.YtaneiddiakjgdaaGreatDoorVAs
import Derived.Test.YtaneiddiakjgdaaGreatDoorVAx
import Derived.Test.YtaneiddiakjgdaaGreatDoorVAw
import Derived.Test.YtaneiddiakjgdaaGreatDoorVAv
import Derived.Test.YtaneiddiakjgdaaGreatDoorVAn
import Derived.Test.YtaneiddiakjgdaaGreatDoorVBf
import Derived.Test.YtaneiddiakjgdaaGreatDoorVBb
import Derived.Test.YtaneiddiakjgdaaGreatDoorVAp
set_option linter.unusedSectionVars false
set_option linter.unusedVariables false
set_option linter.unusedSimpArgs false
set_option maxHeartbeats 1000000
namespace Go.Ab
open Go Go.Proofs
def zfg (a0 : (List Aid)) (a1 : (List Notice)) (a2 : Int) : Int :=
 (bif ((!(zq a0)) || (!(zbc a1))) then 1 else (bif (!(zqd a2)) then 2 else 0))
namespace N117
theorem DD : DOk Tryz.prog (Go.Ab.DD [(72, dP D_zbc), (73, dP D_zqd), (79, dP D_zq)]) := DD_cons D_zbc_ok.e <| DD_cons D_zqd_ok.e <| DD_cons D_zq_ok.e <| DD_nil _
theorem dn : type_of% (And.intro @D_zbc.eq_1 <| And.intro @D_zqd.eq_1 <| @D_zq.eq_1) := by and_intros <;> intros <;> rfl
theorem gr {p : Prop} (h : p := by (grind [vNts_len, vAids_len]); first | done | fail) : p := h
theorem den (a0 : (List Aid)) (a1 : (List Notice)) (a2 : Int) (hb0 : a0.length < 1099511627776) (hb1 : ∀ v ∈ a0, bdAid v) (hb2 : a1.length < 1099511627776) (hb3 : ∀ v ∈ a1, bdNotice v) : Den Tryz.prog 117 [encL 16 eAid a0, encL 20 eNotice a1, .int .i64 a2] (.int .i64 (zfg a0 a1 a2)) := by
 generalize hR : zfg a0 a1 a2 = r
 unfold zfg at hR
 refine di Tryz.func117 Tryz.ntmps117 Tryz.results117 ?_
 intro c hL hc hk
 obtain ⟨hL0, hL1, hL2, _⟩ := hL
 have hw0 : a0.length < 9223372036854775808 := Nat.lt_succ_of_le (lens_encL hL0).1
 have hw1 : ∀ v ∈ a0, bwAid v := fun v hv => Aid_lens v ((lens_encL hL0).2 v hv)
 have hw2 : a1.length < 9223372036854775808 := Nat.lt_succ_of_le (lens_encL hL1).1
 have hw3 : ∀ v ∈ a1, bwNotice v := fun v hv => Notice_lens v ((lens_encL hL1).2 v hv)
 clear hL0 hL1 hL2
 simp only [pars, Nat.zero_add]
 iterate 2 refine rS ?_
 refine AWP.cond rfl (fun hb => ?_) (fun hb => ?_)
 ·replace hR := ct hR
  refine rS ?_
  refine AWP.ret ?_
  subst hR
  exact es
 ·replace hR := cf hR
  refine rS ?_
  refine AWP.cond rfl (fun hb => ?_) (fun hb => ?_)
  ·replace hR := ct hR
   refine rS ?_
   refine AWP.ret ?_
   subst hR
   exact es
  ·replace hR := cf hR
   refine rS ?_
   refine AWP.ret ?_
   subst hR
   exact es
end N117
def D_zfg : DF
 | [x0, x1, x2] => some (.int .i64 (zfg (rdL dAid x0) (rdL dNotice x1) (rdI x2)), false, [wL 16 eAid dAid x0, wL 20 eNotice dNotice x1, wI .i64 x2, (rdL dAid x0).length < 1099511627776, ∀ v ∈ (rdL dAid x0), bdAid v, (rdL dNotice x1).length < 1099511627776, ∀ v ∈ (rdL dNotice x1), bdNotice v])
 | _ => none
theorem D_zfg_ok : OkD Tryz.prog 117 D_zfg := by unfold D_zfg; exact dk N117.den
end Go.Ab

namespace Go.Ab
open Go Go.Proofs
def zrc (a0 : Notice) (a1 : (List Aid)) : ((List Aid) × Int) :=
 (bif (a0.Kind == 1) then ((zsc a1 a0.Aid).1, (zsc a1 a0.Aid).2) else (bif (a0.Kind == 2) then ((zyc a1 a0.Aid).1, (zyc a1 a0.Aid).2) else ((zzc a1 a0.Target).1, (zzc a1 a0.Target).2)))
namespace N175
theorem DD : DOk Tryz.prog (Go.Ab.DD [(183, dP D_zyc), (184, dP D_zzc), (34, dP D_zsc)]) := DD_cons D_zyc_ok.e <| DD_cons D_zzc_ok.e <| DD_cons D_zsc_ok.e <| DD_nil _
theorem dn : type_of% (And.intro @D_zyc.eq_1 <| And.intro @D_zzc.eq_1 <| @D_zsc.eq_1) := by and_intros <;> intros <;> rfl
theorem den (a0 : Notice) (a1 : (List Aid)) (hb0 : bdNotice a0) (hb1 : a1.length < 1099511627776) (hb2 : ∀ v ∈ a1, bdAid v) : Den Tryz.prog 175 [.agg (eNotice a0), encL 16 eAid a1] (.tup [ownL 63 16 eAidO ((zrc a0 a1).1), .int .i64 ((zrc a0 a1).2)]) := by
 generalize hR : zrc a0 a1 = r
 unfold zrc at hR
 refine di Tryz.func175 Tryz.ntmps175 Tryz.results175 ?_
 intro c hL hc hk
 obtain ⟨hL0, hL1, _⟩ := hL
 have hw0 : bwNotice a0 := Notice_lens a0 hL0
 have hw1 : a1.length < 9223372036854775808 := Nat.lt_succ_of_le (lens_encL hL1).1
 have hw2 : ∀ v ∈ a1, bwAid v := fun v hv => Aid_lens v ((lens_encL hL1).2 v hv)
 clear hL0 hL1
 simp only [pars, Nat.zero_add]
 iterate 3 refine rS ?_
 refine AWP.cond rfl (fun hb => ?_) (fun hb => ?_)
 ·replace hR := ct hR
  refine rS ?_
  refine AWP.ret ?_
  subst hR
  exact es
 ·replace hR := cf hR
  refine rS ?_
  refine AWP.cond rfl (fun hb => ?_) (fun hb => ?_)
  ·replace hR := ct hR
   refine rS ?_
   refine AWP.ret ?_
   subst hR
   exact es
  ·replace hR := cf hR
   refine rS ?_
   refine AWP.ret ?_
   subst hR
   exact es
end N175
def D_zrc : DF
 | [x0, x1] => some (.tup [ownL 63 16 eAidO ((zrc (rdG dNotice x0) (rdL dAid x1)).1), .int .i64 ((zrc (rdG dNotice x0) (rdL dAid x1)).2)], false, [wG eNotice dNotice x0, wL 16 eAid dAid x1, bdNotice (rdG dNotice x0), (rdL dAid x1).length < 1099511627776, ∀ v ∈ (rdL dAid x1), bdAid v])
 | _ => none
theorem D_zrc_ok : OkD Tryz.prog 175 D_zrc := by unfold D_zrc; exact dk N175.den
end Go.Ab

namespace Go.Ab
open Go Go.Proofs
theorem eff_all (P : Aid → Prop) (l : List Aid) (n : Notice) (hl : l.length < 9223372036854775807) (hv : ∀ v ∈ l, P v) (ha : P n.Aid) : (∀ v ∈ (zrc n l).1, P v) ∧ (zrc n l).1.length ≤ 25 := by
 unfold zrc
 cases (n.Kind == 1) with
 | true => exact iadd_all P l _ hl hv ha
 | false =>
  cases (n.Kind == 2) with
  | true => exact irepl_all P l n.Aid hv ha
  | false => exact idrop_all P l n.Target hl hv
end Go.Ab

namespace Go.Ab
open Go Go.Proofs
def zad_b1 (a0 : (List Aid)) (a1 : (List Notice)) (a2 : Int) (i1 : Nat) (s1 : List Aid) : Except (((List Aid) × Int × Int)) (List Aid) :=
 (bif (((zrc ((zl a1 a2).getD i1 default) s1).2) != 0) then .error ([], ((zl a1 a2).getD i1 default).Number, (zrc ((zl a1 a2).getD i1 default) s1).2) else .ok ((zrc ((zl a1 a2).getD i1 default) s1).1))
def zad (a0 : (List Aid)) (a1 : (List Notice)) (a2 : Int) : ((List Aid) × Int × Int) :=
 (match loopR (zad_b1 a0 a1 a2) (((zl a1 a2).length) - 0) 0 (zv a0) with | .error e => e | .ok s1 => (s1, 0, 0))
namespace N118
theorem DD : DOk Tryz.prog (Go.Ab.DD [(175, dP D_zrc), (74, dP D_zl), (96, dP D_zv)]) := DD_cons D_zrc_ok.e <| DD_cons D_zl_ok.e <| DD_cons D_zv_ok.e <| DD_nil _
theorem dn : type_of% (And.intro @D_zrc.eq_1 <| And.intro @D_zl.eq_1 <| @D_zv.eq_1) := by and_intros <;> intros <;> rfl
theorem ol : type_of% (@copyAids_id) := @copyAids_id
theorem gr {p : Prop} (h : p := by (grind [inForce_len]); first | done | fail) : p := h
theorem den (a0 : (List Aid)) (a1 : (List Notice)) (a2 : Int) (hb0 : a0.length < 1099511627776) (hb1 : ∀ v ∈ a0, bdAid v) (hb2 : a1.length < 1099511627776) (hb3 : ∀ v ∈ a1, bdNotice v) (hp0 : a0.length ≤ 1048576) (hp1 : a1.length ≤ 1048576) : Den Tryz.prog 118 [encL 16 eAid a0, encL 20 eNotice a1, .int .i64 a2] (.tup [ownL 63 16 eAidO ((zad a0 a1 a2).1), .int .i64 ((zad a0 a1 a2).2.1), .int .i64 ((zad a0 a1 a2).2.2)]) := by
 generalize hR : zad a0 a1 a2 = r
 unfold zad at hR
 refine di Tryz.func118 Tryz.ntmps118 Tryz.results118 ?_
 intro c hL hc hk
 obtain ⟨hL0, hL1, hL2, _⟩ := hL
 have hw0 : a0.length < 9223372036854775808 := Nat.lt_succ_of_le (lens_encL hL0).1
 have hw1 : ∀ v ∈ a0, bwAid v := fun v hv => Aid_lens v ((lens_encL hL0).2 v hv)
 have hw2 : a1.length < 9223372036854775808 := Nat.lt_succ_of_le (lens_encL hL1).1
 have hw3 : ∀ v ∈ a1, bwNotice v := fun v hv => Notice_lens v ((lens_encL hL1).2 v hv)
 clear hL0 hL1 hL2
 simp only [pars, Nat.zero_add]
 have hfl := inForce_len a1 a2
 have hfa := (inForce_inv bdNotice a1 a2 (by assumption)).2
 iterate 3 refine rS ?_
 refine AWP.block ?_
 generalize hz1 : loopR (zad_b1 a0 a1 a2) (((zl a1 a2).length) - 0) 0 (zv a0) = z1 at hR
 refine AWP.range (zad_b1 a0 a1 a2) (fun i1 s1 => ⟨[(9, .ref 0 16 0 s1.length), (18, .ref 1 20 0 ((zl a1 a2).length)), (19, .int .i64 ((zl a1 a2).length : Int)), (20, .int .i64 (i1 : Int))], [.arr 63 16 s1.length (fun j => eAidO (s1.getD j default)), .arr 90 20 (zl a1 a2).length (fun j => eNotice ((zl a1 a2).getD j default))]⟩) (fun i1 s1 => (∀ v ∈ s1, bdAid v) ∧ s1.length ≤ 1048576) (((zl a1 a2).length)) 0 (zv a0) [0, 1] hz1 ot (by (simp only [copyAids_id, ownAids_id]; exact ⟨by assumption, by omega⟩)) sm ?_
 clear hz1
 intro i1 s1 hi1 hW1 hz1
 have hV1 := hW1; obtain ⟨hV1_0, hV1_1⟩ := hV1
 refine rS ?_
 refine AWP.seq ?_
 refine AWP.cond rfl (fun hb => ?_) (fun hb => ?_)
 ·have hlt1 : i1 < ((zl a1 a2).length) := ot
  rw [loopR_lt hlt1] at hz1; simp only [zad_b1] at hz1
  iterate 3 refine rS ?_
  refine AWP.cond rfl (fun hb => ?_) (fun hb => ?_)
  ·simp only [hb, cond_true] at hz1
   refine AWP.seq ?_
   refine AWP.regP mixed G_ok DD hc 5 [0, 1, 2] (.alt 3 [] [0, 1, 2] (.alt 4 [] [2] .leaf .stop) .stop) (by kernel_rfl) (by kernel_rfl) (by kernel_rfl) (fun K hK => ?_); simp only [rootP, runN, runP, recheck, nthO, ea, absV, absVL, cput, gv, sv, dn, reduceCtorEq, reduceIte, Nat.reduceBEq, Nat.reduceAdd, Nat.reduceEqDiff, Nat.reduceLT, Nat.reduceLeDiff, Nat.reduceMul, Nat.reduceSub, BEq.rfl, beq_self_eq_true, Int.reduceToNat]
   repeat' apply And.intro
   all_goals first | refine hK _ ?_ | exact ot
   all_goals clear hK K
   refine AWP.ret ?_
   subst hz1
   dsimp only at hR
   subst hR
   exact es
  ·simp only [hb, cond_false] at hz1
   iterate 2 refine rS ?_
   exact ⟨_, [3, 1], hlt1, by (have h9 := eff_all bdAid s1 ((zl a1 a2).getD i1 default) (by have h1 := hW1.2; omega) hW1.1 (bd_getD (p := bdNotice) (by assumption) (by decide) i1); exact ⟨h9.1, by have h1 := hW1.2; have h2 := h9.2; omega⟩), hz1, sm⟩
 ·obtain rfl : i1 = ((zl a1 a2).length) := ot
  rw [loopR_ge (Nat.le_refl _)] at hz1; subst hz1; dsimp only at hR
  refine AWP.exit ?_; refine exitTo_here ?_
  refine rS ?_
  refine AWP.ret ?_
  subst hR
  exact es
end N118
def D_zad : DF
 | [x0, x1, x2] => some (.tup [ownL 63 16 eAidO ((zad (rdL dAid x0) (rdL dNotice x1) (rdI x2)).1), .int .i64 ((zad (rdL dAid x0) (rdL dNotice x1) (rdI x2)).2.1), .int .i64 ((zad (rdL dAid x0) (rdL dNotice x1) (rdI x2)).2.2)], false, [wL 16 eAid dAid x0, wL 20 eNotice dNotice x1, wI .i64 x2, (rdL dAid x0).length < 1099511627776, ∀ v ∈ (rdL dAid x0), bdAid v, (rdL dNotice x1).length < 1099511627776, ∀ v ∈ (rdL dNotice x1), bdNotice v, (rdL dAid x0).length ≤ 1048576, (rdL dNotice x1).length ≤ 1048576])
 | _ => none
theorem D_zad_ok : OkD Tryz.prog 118 D_zad := by unfold D_zad; exact dk N118.den
end Go.Ab

namespace Go.Ab
open Go Go.Proofs
def zhd (a0 : (List Aid)) (a1 : (List Notice)) (a2 : Int) : ((List Aid) × Int) :=
 (bif ((zfg a0 a1 a2) != 0) then ([], (zfg a0 a1 a2)) else ((zad a0 a1 a2).1, (zad a0 a1 a2).2.2))
namespace N44
theorem DD : DOk Tryz.prog (Go.Ab.DD [(117, dP D_zfg), (118, dP D_zad)]) := DD_cons D_zfg_ok.e <| DD_cons D_zad_ok.e <| DD_nil _
theorem dn : type_of% (And.intro @D_zfg.eq_1 <| @D_zad.eq_1) := by and_intros <;> intros <;> rfl
theorem den (a0 : (List Aid)) (a1 : (List Notice)) (a2 : Int) (hb0 : a0.length < 1099511627776) (hb1 : ∀ v ∈ a0, bdAid v) (hb2 : a1.length < 1099511627776) (hb3 : ∀ v ∈ a1, bdNotice v) (hp0 : a0.length ≤ 1048576) (hp1 : a1.length ≤ 1048576) : Den Tryz.prog 44 [encL 16 eAid a0, encL 20 eNotice a1, .int .i64 a2] (.tup [ownL 63 16 eAidO ((zhd a0 a1 a2).1), .int .i64 ((zhd a0 a1 a2).2)]) := by
 generalize hR : zhd a0 a1 a2 = r
 unfold zhd at hR
 refine di Tryz.func44 Tryz.ntmps44 Tryz.results44 ?_
 intro c hL hc hk
 obtain ⟨hL0, hL1, hL2, _⟩ := hL
 have hw0 : a0.length < 9223372036854775808 := Nat.lt_succ_of_le (lens_encL hL0).1
 have hw1 : ∀ v ∈ a0, bwAid v := fun v hv => Aid_lens v ((lens_encL hL0).2 v hv)
 have hw2 : a1.length < 9223372036854775808 := Nat.lt_succ_of_le (lens_encL hL1).1
 have hw3 : ∀ v ∈ a1, bwNotice v := fun v hv => Notice_lens v ((lens_encL hL1).2 v hv)
 clear hL0 hL1 hL2
 simp only [pars, Nat.zero_add]
 iterate 3 refine rS ?_
 refine AWP.cond rfl (fun hb => ?_) (fun hb => ?_)
 ·replace hR := ct hR
  refine rS ?_
  refine AWP.ret ?_
  subst hR
  exact es
 ·replace hR := cf hR
  iterate 2 refine rS ?_
  refine AWP.ret ?_
  subst hR
  exact es
end N44
def D_zhd : DF
 | [x0, x1, x2] => some (.tup [ownL 63 16 eAidO ((zhd (rdL dAid x0) (rdL dNotice x1) (rdI x2)).1), .int .i64 ((zhd (rdL dAid x0) (rdL dNotice x1) (rdI x2)).2)], false, [wL 16 eAid dAid x0, wL 20 eNotice dNotice x1, wI .i64 x2, (rdL dAid x0).length < 1099511627776, ∀ v ∈ (rdL dAid x0), bdAid v, (rdL dNotice x1).length < 1099511627776, ∀ v ∈ (rdL dNotice x1), bdNotice v, (rdL dAid x0).length ≤ 1048576, (rdL dNotice x1).length ≤ 1048576])
 | _ => none
theorem D_zhd_ok : OkD Tryz.prog 44 D_zhd := by unfold D_zhd; exact dk N44.den
end Go.Ab


namespace Go.Ab
open Go Go.Proofs
def zve (a0 : (List Aid)) (a1 : (List Notice)) (a2 : Int) : Int :=
 (bif ((!(zr a0)) || (!(zjb a1))) then 1 else (bif (!(zmc a2)) then 2 else 0))
namespace N128
theorem DD : DOk Tryz.prog (Go.Ab.DD [(69, dP D_zjb), (70, dP D_zmc), (77, dP D_zr)]) := DD_cons D_zjb_ok.e <| DD_cons D_zmc_ok.e <| DD_cons D_zr_ok.e <| DD_nil _
theorem dn : type_of% (And.intro @D_zjb.eq_1 <| And.intro @D_zmc.eq_1 <| @D_zr.eq_1) := by and_intros <;> intros <;> rfl
theorem gr {p : Prop} (h : p := by (grind [l21Ok_len, l12Ok_len]); first | done | fail) : p := h
theorem den (a0 : (List Aid)) (a1 : (List Notice)) (a2 : Int) (hb0 : a0.length < 1099511627776) (hb1 : ∀ v ∈ a0, bdAid v) (hb2 : a1.length < 1099511627776) (hb3 : ∀ v ∈ a1, bdNotice v) : Den Tryz.prog 128 [encL 16 eAid a0, encL 20 eNotice a1, .int .i64 a2] (.int .i64 (zve a0 a1 a2)) := by
 generalize hR : zve a0 a1 a2 = r
 unfold zve at hR
 refine di Tryz.func128 Tryz.ntmps128 Tryz.results128 ?_
 intro c hL hc hk
 obtain ⟨hL0, hL1, hL2, _⟩ := hL
 have hw0 : a0.length < 9223372036854775808 := Nat.lt_succ_of_le (lens_encL hL0).1
 have hw1 : ∀ v ∈ a0, bwAid v := fun v hv => Aid_lens v ((lens_encL hL0).2 v hv)
 have hw2 : a1.length < 9223372036854775808 := Nat.lt_succ_of_le (lens_encL hL1).1
 have hw3 : ∀ v ∈ a1, bwNotice v := fun v hv => Notice_lens v ((lens_encL hL1).2 v hv)
 clear hL0 hL1 hL2
 simp only [pars, Nat.zero_add]
 iterate 2 refine rS ?_
 refine AWP.cond rfl (fun hb => ?_) (fun hb => ?_)
 ·replace hR := ct hR
  refine rS ?_
  refine AWP.ret ?_
  subst hR
  exact es
 ·replace hR := cf hR
  refine rS ?_
  refine AWP.cond rfl (fun hb => ?_) (fun hb => ?_)
  ·replace hR := ct hR
   refine rS ?_
   refine AWP.ret ?_
   subst hR
   exact es
  ·replace hR := cf hR
   refine rS ?_
   refine AWP.ret ?_
   subst hR
   exact es
end N128
def D_zve : DF
 | [x0, x1, x2] => some (.int .i64 (zve (rdL dAid x0) (rdL dNotice x1) (rdI x2)), false, [wL 16 eAid dAid x0, wL 20 eNotice dNotice x1, wI .i64 x2, (rdL dAid x0).length < 1099511627776, ∀ v ∈ (rdL dAid x0), bdAid v, (rdL dNotice x1).length < 1099511627776, ∀ v ∈ (rdL dNotice x1), bdNotice v])
 | _ => none
theorem D_zve_ok : OkD Tryz.prog 128 D_zve := by unfold D_zve; exact dk N128.den
end Go.Ab

namespace Go.Ab
open Go Go.Proofs
def zcb (a0 : (List Aid)) (a1 : Notice) : ((List Aid) × Int) :=
 (bif (a1.Kind == 1) then ((zfb a0 a1.Aid).1, (zfb a0 a1.Aid).2) else (bif (a1.Kind == 2) then ((znc a0 a1.Aid).1, (znc a0 a1.Aid).2) else ((zoc a0 a1.Target).1, (zoc a0 a1.Target).2)))
namespace N180
theorem DD : DOk Tryz.prog (Go.Ab.DD [(216, dP D_znc), (217, dP D_zoc), (88, dP D_zfb)]) := DD_cons D_znc_ok.e <| DD_cons D_zoc_ok.e <| DD_cons D_zfb_ok.e <| DD_nil _
theorem dn : type_of% (And.intro @D_znc.eq_1 <| And.intro @D_zoc.eq_1 <| @D_zfb.eq_1) := by and_intros <;> intros <;> rfl
theorem den (a0 : (List Aid)) (a1 : Notice) (hb0 : a0.length < 1099511627776) (hb1 : ∀ v ∈ a0, bdAid v) (hb2 : bdNotice a1) (hp0 : a0.length ≤ 1073741824) : Den Tryz.prog 180 [encL 16 eAid a0, .ep (eNotice a1)] (.tup [ownL 63 16 eAidO ((zcb a0 a1).1), .int .i64 ((zcb a0 a1).2)]) := by
 generalize hR : zcb a0 a1 = r
 unfold zcb at hR
 refine di Tryz.func180 Tryz.ntmps180 Tryz.results180 ?_
 intro c hL hc hk
 obtain ⟨hL0, hL1, _⟩ := hL
 have hw0 : a0.length < 9223372036854775808 := Nat.lt_succ_of_le (lens_encL hL0).1
 have hw1 : ∀ v ∈ a0, bwAid v := fun v hv => Aid_lens v ((lens_encL hL0).2 v hv)
 have hw2 : bwNotice a1 := Notice_lens a1 hL1
 clear hL0 hL1
 simp only [pars, Nat.zero_add]
 iterate 3 refine rS ?_
 refine AWP.cond rfl (fun hb => ?_) (fun hb => ?_)
 ·replace hR := ct hR
  refine rS ?_
  refine AWP.ret ?_
  subst hR
  exact es
 ·replace hR := cf hR
  refine rS ?_
  refine AWP.cond rfl (fun hb => ?_) (fun hb => ?_)
  ·replace hR := ct hR
   refine rS ?_
   refine AWP.ret ?_
   subst hR
   exact es
  ·replace hR := cf hR
   refine rS ?_
   refine AWP.ret ?_
   subst hR
   exact es
end N180
def D_zcb : DF
 | [x0, x1] => some (.tup [ownL 63 16 eAidO ((zcb (rdL dAid x0) (rdP dNotice x1)).1), .int .i64 ((zcb (rdL dAid x0) (rdP dNotice x1)).2)], false, [wL 16 eAid dAid x0, wP eNotice dNotice x1, (rdL dAid x0).length < 1099511627776, ∀ v ∈ (rdL dAid x0), bdAid v, bdNotice (rdP dNotice x1), (rdL dAid x0).length ≤ 1073741824])
 | _ => none
theorem D_zcb_ok : OkD Tryz.prog 180 D_zcb := by unfold D_zcb; exact dk N180.den
end Go.Ab

namespace Go.Ab
open Go Go.Proofs
theorem do_all (P : Aid → Prop) (l : List Aid) (n : Notice) (hl : l.length < 9223372036854775807) (hv : ∀ v ∈ l, P v) (ha : P n.Aid) : (∀ v ∈ (zcb l n).1, P v) ∧ (zcb l n).1.length ≤ l.length + 1 := by
 unfold zcb
 cases (n.Kind == 1) with
 | true => exact put_all P l _ hl hv ha
 | false =>
  cases (n.Kind == 2) with
  | true => have := repl_all P l n.Aid hv ha; exact ⟨this.1, Nat.le_succ_of_le this.2⟩
  | false => have := drop_all P l n.Target hl hv; exact ⟨this.1, Nat.le_succ_of_le this.2⟩
end Go.Ab

namespace Go.Ab
open Go Go.Proofs
def ztb_b1 (a0 : (List Aid)) (a1 : (List Notice)) (a2 : Int) (i1 : Nat) (s1 : List Aid) : Except (((List Aid) × Int × Int)) (List Aid) :=
 (bif (!(zue a1 (i1 : Int) a2)) then .ok s1 else (bif (((zcb s1 (a1.getD i1 default)).2) != 0) then .error ([], (a1.getD i1 default).Number, (zcb s1 (a1.getD i1 default)).2) else .ok ((zcb s1 (a1.getD i1 default)).1)))
def ztb (a0 : (List Aid)) (a1 : (List Notice)) (a2 : Int) : ((List Aid) × Int × Int) :=
 (match loopR (ztb_b1 a0 a1 a2) (a1.length - 0) 0 (zu a0) with | .error e => e | .ok s1 => (s1, 0, 0))
namespace N129
theorem DD : DOk Tryz.prog (Go.Ab.DD [(155, dP D_zu), (180, dP D_zcb), (71, dP D_zue)]) := DD_cons D_zu_ok.e <| DD_cons D_zcb_ok.e <| DD_cons D_zue_ok.e <| DD_nil _
theorem dn : type_of% (And.intro @D_zu.eq_1 <| And.intro @D_zcb.eq_1 <| @D_zue.eq_1) := by and_intros <;> intros <;> rfl
theorem ol : type_of% (@ownAids_id) := @ownAids_id
theorem den (a0 : (List Aid)) (a1 : (List Notice)) (a2 : Int) (hb0 : a0.length < 1099511627776) (hb1 : ∀ v ∈ a0, bdAid v) (hb2 : a1.length < 1099511627776) (hb3 : ∀ v ∈ a1, bdNotice v) (hp0 : a0.length ≤ 1048576) (hp1 : a1.length ≤ 1048576) : Den Tryz.prog 129 [encL 16 eAid a0, encL 20 eNotice a1, .int .i64 a2] (.tup [ownL 63 16 eAidO ((ztb a0 a1 a2).1), .int .i64 ((ztb a0 a1 a2).2.1), .int .i64 ((ztb a0 a1 a2).2.2)]) := by
 generalize hR : ztb a0 a1 a2 = r
 unfold ztb at hR
 refine di Tryz.func129 Tryz.ntmps129 Tryz.results129 ?_
 intro c hL hc hk
 obtain ⟨hL0, hL1, hL2, _⟩ := hL
 have hw0 : a0.length < 9223372036854775808 := Nat.lt_succ_of_le (lens_encL hL0).1
 have hw1 : ∀ v ∈ a0, bwAid v := fun v hv => Aid_lens v ((lens_encL hL0).2 v hv)
 have hw2 : a1.length < 9223372036854775808 := Nat.lt_succ_of_le (lens_encL hL1).1
 have hw3 : ∀ v ∈ a1, bwNotice v := fun v hv => Notice_lens v ((lens_encL hL1).2 v hv)
 clear hL0 hL1 hL2
 simp only [pars, Nat.zero_add]
 iterate 3 refine rS ?_
 refine AWP.block ?_
 generalize hz1 : loopR (ztb_b1 a0 a1 a2) (a1.length - 0) 0 (zu a0) = z1 at hR
 refine AWP.range (ztb_b1 a0 a1 a2) (fun i1 s1 => ⟨[(1, encL 20 eNotice a1), (2, .int .i64 a2), (9, .ref 0 16 0 s1.length), (10, .int .i64 (i1 : Int))], [.arr 63 16 s1.length (fun j => eAidO (s1.getD j default))]⟩) (fun i1 s1 => (∀ v ∈ s1, bdAid v) ∧ s1.length ≤ a0.length + i1) (a1.length) 0 (zu a0) [0] hz1 ot (by (simp only [copyAids_id, ownAids_id]; exact ⟨by assumption, by omega⟩)) sm ?_
 clear hz1
 intro i1 s1 hi1 hW1 hz1
 have hV1 := hW1; obtain ⟨hV1_0, hV1_1⟩ := hV1
 refine rS ?_
 refine AWP.cond rfl (fun hb => ?_) (fun hb => ?_)
 ·have hlt1 : i1 < a1.length := ot
  rw [loopR_lt hlt1] at hz1; simp only [ztb_b1] at hz1
  refine rS ?_
  refine AWP.cond rfl (fun hb => ?_) (fun hb => ?_)
  ·simp only [hb, cond_true] at hz1
   refine AWP.exit ?_
   refine exitTo_here ?_
   refine rS ?_
   exact ⟨_, [0], hlt1, by (first | exact ⟨hW1.1, by have h1 := hW1.2; omega⟩ | (have h9 := do_all bdAid s1 (a1.getD i1 default) (by have h1 := hW1.2; omega) hW1.1 (bd_getD (p := bdNotice) (by assumption) (by decide) i1); exact ⟨h9.1, by have h1 := hW1.2; have h2 := h9.2; omega⟩)), hz1, sm⟩
  ·simp only [hb, cond_false] at hz1
   iterate 2 refine rS ?_
   refine AWP.cond rfl (fun hb => ?_) (fun hb => ?_)
   ·simp only [hb, cond_true] at hz1
    refine AWP.seq ?_
    refine AWP.regP mixed G_ok DD hc 8 [0, 1, 2, 3, 4, 5] (.alt 6 [] [0, 1, 2, 3, 4, 5] (.alt 7 [] [5] .leaf .stop) .stop) (by kernel_rfl) (by kernel_rfl) (by kernel_rfl) (fun K hK => ?_); simp only [rootP, runN, runP, recheck, nthO, ea, absV, absVL, cput, gv, sv, dn, reduceCtorEq, reduceIte, Nat.reduceBEq, Nat.reduceAdd, Nat.reduceEqDiff, Nat.reduceLT, Nat.reduceLeDiff, Nat.reduceMul, Nat.reduceSub, BEq.rfl, beq_self_eq_true, Int.reduceToNat]
    repeat' apply And.intro
    all_goals first | refine hK _ ?_ | exact ot
    all_goals clear hK K
    refine AWP.ret ?_
    subst hz1
    dsimp only at hR
    subst hR
    exact es
   ·simp only [hb, cond_false] at hz1
    iterate 2 refine rS ?_
    exact ⟨_, [1], hlt1, by (first | exact ⟨hW1.1, by have h1 := hW1.2; omega⟩ | (have h9 := do_all bdAid s1 (a1.getD i1 default) (by have h1 := hW1.2; omega) hW1.1 (bd_getD (p := bdNotice) (by assumption) (by decide) i1); exact ⟨h9.1, by have h1 := hW1.2; have h2 := h9.2; omega⟩)), hz1, sm⟩
 ·obtain rfl : i1 = a1.length := ot
  rw [loopR_ge (Nat.le_refl _)] at hz1; subst hz1; dsimp only at hR
  refine AWP.exit ?_; refine exitTo_here ?_
  refine rS ?_
  refine AWP.ret ?_
  subst hR
  exact es
end N129
def D_ztb : DF
 | [x0, x1, x2] => some (.tup [ownL 63 16 eAidO ((ztb (rdL dAid x0) (rdL dNotice x1) (rdI x2)).1), .int .i64 ((ztb (rdL dAid x0) (rdL dNotice x1) (rdI x2)).2.1), .int .i64 ((ztb (rdL dAid x0) (rdL dNotice x1) (rdI x2)).2.2)], false, [wL 16 eAid dAid x0, wL 20 eNotice dNotice x1, wI .i64 x2, (rdL dAid x0).length < 1099511627776, ∀ v ∈ (rdL dAid x0), bdAid v, (rdL dNotice x1).length < 1099511627776, ∀ v ∈ (rdL dNotice x1), bdNotice v, (rdL dAid x0).length ≤ 1048576, (rdL dNotice x1).length ≤ 1048576])
 | _ => none
theorem D_ztb_ok : OkD Tryz.prog 129 D_ztb := by unfold D_ztb; exact dk N129.den
end Go.Ab

namespace Go.Ab
open Go Go.Proofs
def znd (a0 : (List Aid)) (a1 : (List Notice)) (a2 : Int) : ((List Aid) × Int) :=
 (bif ((zve a0 a1 a2) != 0) then ([], (zve a0 a1 a2)) else ((ztb a0 a1 a2).1, (ztb a0 a1 a2).2.2))
namespace N62
theorem DD : DOk Tryz.prog (Go.Ab.DD [(128, dP D_zve), (129, dP D_ztb)]) := DD_cons D_zve_ok.e <| DD_cons D_ztb_ok.e <| DD_nil _
theorem dn : type_of% (And.intro @D_zve.eq_1 <| @D_ztb.eq_1) := by and_intros <;> intros <;> rfl
theorem den (a0 : (List Aid)) (a1 : (List Notice)) (a2 : Int) (hb0 : a0.length < 1099511627776) (hb1 : ∀ v ∈ a0, bdAid v) (hb2 : a1.length < 1099511627776) (hb3 : ∀ v ∈ a1, bdNotice v) (hp0 : a0.length ≤ 1048576) (hp1 : a1.length ≤ 1048576) : Den Tryz.prog 62 [encL 16 eAid a0, encL 20 eNotice a1, .int .i64 a2] (.tup [ownL 63 16 eAidO ((znd a0 a1 a2).1), .int .i64 ((znd a0 a1 a2).2)]) := by
 generalize hR : znd a0 a1 a2 = r
 unfold znd at hR
 refine di Tryz.func62 Tryz.ntmps62 Tryz.results62 ?_
 intro c hL hc hk
 obtain ⟨hL0, hL1, hL2, _⟩ := hL
 have hw0 : a0.length < 9223372036854775808 := Nat.lt_succ_of_le (lens_encL hL0).1
 have hw1 : ∀ v ∈ a0, bwAid v := fun v hv => Aid_lens v ((lens_encL hL0).2 v hv)
 have hw2 : a1.length < 9223372036854775808 := Nat.lt_succ_of_le (lens_encL hL1).1
 have hw3 : ∀ v ∈ a1, bwNotice v := fun v hv => Notice_lens v ((lens_encL hL1).2 v hv)
 clear hL0 hL1 hL2
 simp only [pars, Nat.zero_add]
 iterate 3 refine rS ?_
 refine AWP.cond rfl (fun hb => ?_) (fun hb => ?_)
 ·replace hR := ct hR
  refine rS ?_
  refine AWP.ret ?_
  subst hR
  exact es
 ·replace hR := cf hR
  iterate 2 refine rS ?_
  refine AWP.ret ?_
  subst hR
  exact es
end N62
def D_znd : DF
 | [x0, x1, x2] => some (.tup [ownL 63 16 eAidO ((znd (rdL dAid x0) (rdL dNotice x1) (rdI x2)).1), .int .i64 ((znd (rdL dAid x0) (rdL dNotice x1) (rdI x2)).2)], false, [wL 16 eAid dAid x0, wL 20 eNotice dNotice x1, wI .i64 x2, (rdL dAid x0).length < 1099511627776, ∀ v ∈ (rdL dAid x0), bdAid v, (rdL dNotice x1).length < 1099511627776, ∀ v ∈ (rdL dNotice x1), bdNotice v, (rdL dAid x0).length ≤ 1048576, (rdL dNotice x1).length ≤ 1048576])
 | _ => none
theorem D_znd_ok : OkD Tryz.prog 62 D_znd := by unfold D_znd; exact dk N62.den
end Go.Ab


namespace Go.Ab
open Go Go.Proofs
theorem one_aid {n : Notice} (h : zfd n = true) (hk : (n.Kind == 1) = true ∨ (n.Kind == 2) = true) : zeb n.Aid = true := by
 unfold zfd at h
 cases h1 : ((!(ze n.Number 1 9999)) || (!(zmc n.Day))) with
 | true => rw [h1] at h; cases h
 | false =>
  rw [h1, cond_false] at h
  cases h2 : (n.Kind == 1) with
  | true => rw [h2, cond_true, Bool.and_eq_true] at h; exact h.1
  | false =>
   rw [h2, cond_false] at h
   cases h3 : (n.Kind == 2) with
   | true => rw [h3, cond_true, Bool.and_eq_true] at h; exact h.1
   | false => rw [h2, h3] at hk; simp at hk
theorem effect_eq (P : Aid → Prop) (hP : ∀ v, P v → aidL v) (n : Notice) (s : List Aid) (hs : okP P s) (hn : zfd n = true) (ha : P n.Aid) :
  zrc n s = zcb s n ∧ ((zcb s n).2 = 0 → okP P (zcb s n).1) := by
 unfold zrc zcb
 have hv : ∀ v ∈ s, aidL v := fun v h => hP v (hs.2 v h)
 cases h1 : (n.Kind == 1) with
 | true =>
  simp only [cond_true]
  have ho := one_aid hn (.inl h1)
  rw [addAid_put s n.Aid hs.1 hv (hP _ ha) ho]
  exact ⟨rfl, fun h => put_okP P hs ⟨ho, ha⟩ (Prod.ext rfl h)⟩
 | false =>
  simp only [cond_false]
  cases h2 : (n.Kind == 2) with
  | true =>
   simp only [cond_true]
   have ho := one_aid hn (.inr h2)
   rw [replAid_eq s n.Aid hs.1 hv (hP _ ha) ho]
   exact ⟨rfl, fun h => repl_okP P hs ⟨ho, ha⟩ (Prod.ext rfl h)⟩
  | false =>
   simp only [cond_false]
   rw [dropAid_eq s n.Target hs.1 hv]
   exact ⟨rfl, fun h => drop_okP P hs (Prod.ext rfl h)⟩
theorem current_eq (P : Aid → Prop) (hP : ∀ v, P v → aidL v) (e : List Aid) (l : List Notice) (d : Int) (he : okP P e) (hl : ∀ n ∈ l, zfd n = true) (ha : ∀ n ∈ l, P n.Aid) :
  zad e l d = ztb e l d ∧ ((ztb e l d).2.2 = 0 → okP P (ztb e l d).1) ∧ ((ztb e l d).2.2 ≠ 0 → (ztb e l d).1 = []) := by
 unfold zad ztb
 rw [copyAids_id, ownAids_id]
 rw [loopR_foldE (zl l d) (zad_b1 e l d) (fun n s => bif (((zrc n s).2) != 0) then .error ([], n.Number, (zrc n s).2) else .ok ((zrc n s).1)) e (fun i s _ => rfl)]
 rw [inForce_eq, foldE_filter]
 rw [loopR_foldE l (ztb_b1 e l d) (fun n s => bif inF l d n then (bif (((zcb s n).2) != 0) then .error ([], n.Number, (zcb s n).2) else .ok ((zcb s n).1)) else .ok s) e (fun i s _ => by
  simp only [ztb_b1, force_eq]
  cases inF l d (l.getD i default) <;> rfl)]
 obtain ⟨h1, h2⟩ := foldE_same (ρ := List Aid × Int × Int) (okP P) (fun n s => bif inF l d n then (bif (((zrc n s).2) != 0) then .error ([], n.Number, (zrc n s).2) else .ok ((zrc n s).1)) else .ok s)
  (fun n s => bif inF l d n then (bif (((zcb s n).2) != 0) then .error ([], n.Number, (zcb s n).2) else .ok ((zcb s n).1)) else .ok s) l e he (fun n hn s hs => by
   obtain ⟨g1, g2⟩ := effect_eq P hP n s hs (hl n hn) (ha n hn)
   rw [g1]
   refine ⟨rfl, fun t ht => ?_⟩
   cases hf : inF l d n with
   | false =>
    simp only [hf, cond_false, Except.ok.injEq] at ht
    subst ht; exact hs
   | true =>
    simp only [hf, cond_true] at ht
    cases hz : ((zcb s n).2 != 0) with
    | true => rw [hz] at ht; cases ht
    | false =>
     rw [hz] at ht
     simp only [cond_false, Except.ok.injEq] at ht
     subst ht
     exact g2 (by simpa using hz))
 rw [h1]
 have herr : ∀ (r : List Notice) (s : List Aid) (x : List Aid × Int × Int), foldE (ρ := List Aid × Int × Int) (fun n s => bif inF l d n then (bif (((zcb s n).2) != 0) then .error ([], n.Number, (zcb s n).2) else .ok ((zcb s n).1)) else .ok s) r s = .error x → x.1 = [] ∧ x.2.2 ≠ 0 := by
  intro r
  induction r with
  | nil => intro s x h; simp [foldE] at h
  | cons n r ih =>
   intro s x h
   simp only [foldE] at h
   cases hf : inF l d n with
   | false => simp only [hf, cond_false] at h; exact ih _ _ h
   | true =>
    simp only [hf, cond_true] at h
    cases hz : ((zcb s n).2 != 0) with
    | true =>
     simp only [hz, cond_true, Except.error.injEq] at h
     subst h
     exact ⟨rfl, by simpa using hz⟩
    | false => simp only [hz, cond_false] at h; exact ih _ _ h
 cases hc : foldE (ρ := List Aid × Int × Int) (fun n s => bif inF l d n then (bif (((zcb s n).2) != 0) then .error ([], n.Number, (zcb s n).2) else .ok ((zcb s n).1)) else .ok s) l e with
 | error x =>
  obtain ⟨g1, g2⟩ := herr l e x hc
  exact ⟨rfl, fun h => absurd h g2, fun _ => g1⟩
 | ok t => exact ⟨rfl, fun _ => h2 t hc, fun h => absurd rfl h⟩
theorem ask_eq (e : List Aid) (l : List Notice) (d : Int) (he : ∀ v ∈ e, aidL v) (hl : ∀ n ∈ l, aidL n.Aid) : zfg e l d = zve e l d := by
 unfold zfg zve
 rw [validAids_eq e he, valNotices_eq l hl]
 rfl
theorem ask_ok {e : List Aid} {l : List Notice} {d : Int} (h : (zve e l d != 0) = false) : okA e ∧ (∀ n ∈ l, zfd n = true) ∧ l.length ≤ 32 := by
 unfold zve at h
 cases h1 : zr e with
 | false => rw [h1] at h; simp at h
 | true =>
  cases h2 : zjb l with
  | false => rw [h1, h2] at h; simp at h
  | true => exact ⟨(okA_iff e).1 h1, l21_all h2⟩
theorem curList_eq (P : Aid → Prop) (hP : ∀ v, P v → aidL v) (e : List Aid) (l : List Notice) (d : Int) (he : ∀ v ∈ e, P v) (hl : ∀ n ∈ l, P n.Aid) :
  zhd e l d = znd e l d ∧ (∀ v ∈ (znd e l d).1, P v) ∧ (znd e l d).1.length ≤ 24 := by
 unfold zhd znd
 rw [ask_eq e l d (fun v h => hP v (he v h)) (fun n h => hP _ (hl n h))]
 cases hk : (zve e l d != 0) with
 | true => exact ⟨rfl, fun v hv => by simp at hv, by simp⟩
 | false =>
  simp only [cond_false]
  obtain ⟨h1, h2, h3⟩ := ask_ok hk
  obtain ⟨g1, g2, g3⟩ := current_eq P hP e l d ⟨h1, he⟩ h2 hl
  rw [g1]
  refine ⟨rfl, ?_⟩
  by_cases hz : (ztb e l d).2.2 = 0
  ·have := g2 hz
   exact ⟨this.2, this.1.2.2⟩
  ·rw [g3 hz]; exact ⟨fun v hv => by simp at hv, by simp⟩
end Go.Ab

namespace Go.Ab
open Go Go.Proofs
def zmh (a0 : (List Aid)) (a1 : (List Notice)) (a2 : Int) : Bool :=
 (bif decide ((zg a0 1048576) < 0) then true else (bif decide ((zz a1 (zg a0 1048576)) < 0) then true else (bif ((!(zw ((zhd (zb a0) (zi a1) a2).1) ((znd (zb a0) (zi a1) a2).1))) || (((zhd (zb a0) (zi a1) a2).2) != ((znd (zb a0) (zi a1) a2).2))) then false else (bif (!(zw (zb a0) (zb a0))) then false else (bif (!(zxb (zi a1) (zi a1))) then false else (bif ((decide (((zvc (zi a1) ((zt (zb a0) 1).1)).1) < 0) || (!(zw ((zhd (zb a0) (zi a1) a2).1) ((znd (zb a0) (zi a1) a2).1)))) || (((zhd (zb a0) (zi a1) a2).2) != ((znd (zb a0) (zi a1) a2).2))) then false else (bif decide ((zvb ((zt ((zhd (zb a0) (zi a1) a2).1) 1).2) 1) < 0) then false else (bif ((zvb ((zt ((zhd (zb a0) (zi a1) a2).1) 1).2) 1) != ((zt ((zhd (zb a0) (zi a1) a2).1) 1).1)) then false else true))))))))
namespace N11
theorem DD : DOk Tryz.prog (Go.Ab.DD [(13, dP D_zz), (15, dP D_zi), (18, dP D_zxb), (22, dP D_zg), (24, dP D_zb), (27, dP D_zw), (37, dP D_zvb), (44, dP D_zhd), (62, dP D_znd)]) := DD_cons D_zz_ok.e <| DD_cons D_zi_ok.e <| DD_cons D_zxb_ok.e <| DD_cons D_zg_ok.e <| DD_cons D_zb_ok.e <| DD_cons D_zw_ok.e <| DD_cons D_zvb_ok.e <| DD_cons D_zhd_ok.e <| DD_cons D_znd_ok.e <| DD_nil _
theorem dn : type_of% (And.intro @D_zz.eq_1 <| And.intro @D_zi.eq_1 <| And.intro @D_zxb.eq_1 <| And.intro @D_zg.eq_1 <| And.intro @D_zb.eq_1 <| And.intro @D_zw.eq_1 <| And.intro @D_zvb.eq_1 <| And.intro @D_zhd.eq_1 <| And.intro @D_znd.eq_1 <| And.intro @markNoticeS_sub <| And.intro @markAidS_sub <| @markAidS_sub) := And.intro @D_zz.eq_1 <| And.intro @D_zi.eq_1 <| And.intro @D_zxb.eq_1 <| And.intro @D_zg.eq_1 <| And.intro @D_zb.eq_1 <| And.intro @D_zw.eq_1 <| And.intro @D_zvb.eq_1 <| And.intro @D_zhd.eq_1 <| And.intro @D_znd.eq_1 <| And.intro @markNoticeS_sub <| And.intro @markAidS_sub <| @markAidS_sub
theorem ol : type_of% (And.intro @zi_id <| And.intro @markNoticeS_len <| And.intro @zb_id <| @markAidS_len) := And.intro @zi_id <| And.intro @markNoticeS_len <| And.intro @zb_id <| @markAidS_len
theorem gr {p : Prop} (h : p := by (grind [markNoticeS_le, markAidS_le, markAidS_le]); first | done | fail) : p := h
theorem o1 {p : Prop} (h : p := by (first | (exact mrg) | (exact markAidS_le _ _ (by exact mrg)) | ((try simp only [ol]); first | (have h9 := hG0 (by assumption); first | exact h9.2 | exact h9.1 | omega) | (have h9 := hG1 (by assumption); first | exact h9.2 | exact h9.1 | omega))); first | done | fail) : p := h
set_option maxHeartbeats 4000000 in
set_option maxRecDepth 20000 in
theorem _root_.Go.Ab.zmh_den (a0 : (List Aid)) (a1 : (List Notice)) (a2 : Int)  : Den Tryz.prog 11 [encL 16 eAid a0, encL 20 eNotice a1, .int .i64 a2] (.bool (zmh a0 a1 a2)) := by
 generalize hR : zmh a0 a1 a2 = r
 unfold zmh at hR
 refine den_introL G_ok Tryz.func11 (by kernel_rfl) rfl Tryz.ntmps11 (by rw [Tryz.results11]) (by simp) rfl ?_
 intro c u hdp hlit hL hc hk
 obtain ⟨hL0, hL1, hL2, _⟩ := hL
 have hw0 : a0.length < 9223372036854775808 := Nat.lt_succ_of_le (lens_encL hL0).1
 have hw1 : ∀ v ∈ a0, bwAid v := fun v hv => Aid_lens v ((lens_encL hL0).2 v hv)
 have hw2 : a1.length < 9223372036854775808 := Nat.lt_succ_of_le (lens_encL hL1).1
 have hw3 : ∀ v ∈ a1, bwNotice v := fun v hv => Notice_lens v ((lens_encL hL1).2 v hv)
 clear hL0 hL1 hL2
 simp only [litN, lit1, litR, encL, sv, Nat.zero_add] at hlit
 simp only [litN, lit1, encL, sv, pars, Nat.zero_add, Nat.reduceAdd]
 have hf0 := zg_facts a0 (1048576) (by omega) (by omega) hw0 hw1
 have hf1 := zz_facts a1 (zg a0 (1048576)) (by omega) (by omega) hw2 hw3
 have hG0 : decide (zg a0 (1048576) < 0) = false → a0.length ≤ 1048576 ∧ ∀ x ∈ a0, bdAid x := fun h => ⟨(hf0.2.2 (of_decide_eq_false h)).1, fun x hx => smAid_bd x ((hf0.2.2 (of_decide_eq_false h)).2 x hx)⟩
 have hG1 : decide (zz a1 (zg a0 (1048576)) < 0) = false → a1.length ≤ 1048576 ∧ ∀ x ∈ a1, bdNotice x := fun h => ⟨(hf1.2.2 (of_decide_eq_false h)).1, fun x hx => smNotice_bd x ((hf1.2.2 (of_decide_eq_false h)).2 x hx)⟩
 iterate 4 refine rS ?_
 refine AWP.cond rfl (fun hb => ?_) (fun hb => ?_)
 ·replace hR := ct hR
  refine rS ?_
  refine AWP.ret ?_
  subst hR
  exact es
 ·replace hR := cf hR
  iterate 2 refine rS ?_
  refine AWP.cond rfl (fun hb => ?_) (fun hb => ?_)
  ·replace hR := ct hR
   refine rS ?_
   refine AWP.ret ?_
   subst hR
   exact es
  ·replace hR := cf hR
   iterate 5 refine rS ?_
   refine AWP.cond rfl (fun hb => ?_) (fun hb => ?_)
   ·replace hR := ct hR
    refine rS ?_
    refine AWP.ret ?_
    subst hR
    exact es
   ·replace hR := cf hR
    refine rS ?_
    refine AWP.cond rfl (fun hb => ?_) (fun hb => ?_)
    ·replace hR := ct hR
     refine rS ?_
     refine AWP.ret ?_
     subst hR
     exact es
    ·replace hR := cf hR
     refine rS ?_
     refine AWP.cond rfl (fun hb => ?_) (fun hb => ?_)
     ·replace hR := ct hR
      refine rS ?_
      refine AWP.ret ?_
      subst hR
      exact es
     ·replace hR := cf hR
      refine rS ?_
      refine AWP.seq ?_
      refine rX 2 (N28.den (zb a0) 1 ot) ?_
      refine AWP.seq ?_
      refine rX 2 (N19.den (zi a1) ((zt (zb a0) 1).1) ot) ?_
      refine rS ?_
      refine AWP.cond rfl (fun hb => ?_) (fun hb => ?_)
      ·replace hR := ct hR
       refine rS ?_
       refine AWP.ret ?_
       subst hR
       exact es
      ·replace hR := cf hR
       refine rS ?_
       refine AWP.seq ?_
       refine rX 2 (N28.den ((zhd (zb a0) (zi a1) a2).1) 1 ot) ?_
       iterate 3 refine rS ?_
       refine AWP.cond rfl (fun hb => ?_) (fun hb => ?_)
       ·replace hR := ct hR
        refine rS ?_
        refine AWP.ret ?_
        subst hR
        exact es
       ·replace hR := cf hR
        refine rS ?_
        refine AWP.cond rfl (fun hb => ?_) (fun hb => ?_)
        ·replace hR := ct hR
         refine rS ?_
         refine AWP.ret ?_
         subst hR
         exact es
        ·replace hR := cf hR
         iterate 2 refine rS ?_
         refine AWP.cond rfl (fun hb => ?_) (fun hb => ?_)
         ·exfalso; simp_all
         ·refine rS ?_
          iterate 2 refine rS ?_
          refine AWP.cond rfl (fun hb => ?_) (fun hb => ?_)
          ·exfalso; simp_all
          ·refine rS ?_
           refine AWP.cond rfl (fun hb => ?_) (fun hb => ?_)
           ·exfalso; simp_all
           ·refine rS ?_
            refine AWP.ret ?_
            subst hR
            exact es
end N11
end Go.Ab

namespace Go.Ab
open Go Go.Proofs
theorem law_CurrentList (a0 : List Aid) (a1 : List Notice) (a2 : Int) (hl : a0.length < 9223372036854775808) (hv : ∀ v ∈ a0, bwAid v) (hl1 : a1.length < 9223372036854775808) (hv1 : ∀ v ∈ a1, bwNotice v) : zmh a0 a1 a2 = true := by
 unfold zmh
 have f0 := zg_facts a0 1048576 (by omega) (by omega) hl hv
 by_cases c0 : zg a0 1048576 < 0
 ·rw [decide_eq_true c0]; rfl
 rw [decide_eq_false c0]
 have f1 := zz_facts a1 (zg a0 1048576) (by omega) (by omega) hl1 hv1
 by_cases c1 : zz a1 (zg a0 1048576) < 0
 ·rw [decide_eq_true c1]; rfl
 rw [decide_eq_false c1]
 simp only [cond_false]
 obtain ⟨g0, g1⟩ := f0.2.2 c0
 obtain ⟨k0, k1⟩ := f1.2.2 c1
 simp only [zb_id, zi_id, zw_dec, zxb_dec]
 have hp0 : ∀ v ∈ a0, aidP v := fun v h => aidP_of (hv v h) (g1 v h)
 have hp1 : ∀ n ∈ a1, aidP n.Aid := fun n h => aidP_of (hv1 n h) (k1 n h)
 obtain ⟨e1, e2, e3⟩ := curList_eq aidP aidP_L a0 a1 a2 hp0 hp1
 rw [e1]
 have hm := heldAidS_mark (znd a0 a1 a2).1 1 (fun v h => (e2 v h).2) (by omega) (by omega) (by omega)
 have hk := markAidS_rng a0 1 (fun v h => (hp0 v h).2) g0 (by omega) (by omega)
 have hk2 := markNoticeS_rng a1 (zt a0 1).1 (fun v h => (hp1 v h).2) k0 (by omega) (by omega)
 rw [hm.1, decide_eq_false hm.2, decide_eq_false (show ¬ (zvc a1 (zt a0 1).1).1 < 0 by omega)]
 simp
end Go.Ab
