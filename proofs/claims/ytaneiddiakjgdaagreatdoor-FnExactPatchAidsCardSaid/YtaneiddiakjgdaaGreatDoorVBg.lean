/- A part of a proof: walks of functions and lemmas of our own. No conditions. -/
import Derived.Test.YtaneiddiakjgdaaGreatDoorVAl
import Derived.Test.YtaneiddiakjgdaaGreatDoorVAu
import Derived.Test.YtaneiddiakjgdaaGreatDoorVAz
import Derived.Test.YtaneiddiakjgdaaGreatDoorVBa
import Derived.Test.YtaneiddiakjgdaaGreatDoorVBd
import Derived.Test.YtaneiddiakjgdaaGreatDoorVAs
import Derived.Test.YtaneiddiakjgdaaGreatDoorVAv
import Derived.Test.YtaneiddiakjgdaaGreatDoorVAw
import Derived.Test.YtaneiddiakjgdaaGreatDoorVAp
import Derived.Test.YtaneiddiakjgdaaGreatDoorVAn
import Derived.Test.YtaneiddiakjgdaaGreatDoorVBb
set_option linter.unusedSectionVars false
set_option linter.unusedVariables false
set_option linter.unusedSimpArgs false
set_option maxHeartbeats 1000000
namespace Go.Ab
open Go Go.Proofs
def ztg (a0 : Correction) : Bool :=
 ((zlh a0.Kind) && (zob a0.Aid))
namespace N134
theorem DD : DOk Tryz.prog (Go.Ab.DD [(182, dP D_zlh), (93, dP D_zob)]) := DD_cons D_zlh_ok.e <| DD_cons D_zob_ok.e <| DD_nil _
theorem dn : type_of% (And.intro @D_zlh.eq_1 <| @D_zob.eq_1) := by and_intros <;> intros <;> rfl
theorem den (a0 : Correction) (hb0 : bdCorrection a0) : Den Tryz.prog 134 [.agg (eCorrection a0)] (.bool (ztg a0)) := by
 generalize hR : ztg a0 = r
 unfold ztg at hR
 refine di Tryz.func134 Tryz.ntmps134 Tryz.results134 ?_
 intro c hL hc hk
 obtain ⟨hL0, _⟩ := hL
 have hw0 : bwCorrection a0 := Correction_lens a0 hL0
 clear hL0
 simp only [pars, Nat.zero_add]
 iterate 2 refine rS ?_
 refine AWP.ret ?_
 subst hR
 exact es
end N134
def D_ztg : DF
 | [x0] => some (.bool (ztg (rdG dCorrection x0)), false, [wG eCorrection dCorrection x0, bdCorrection (rdG dCorrection x0)])
 | _ => none
theorem D_ztg_ok : OkD Tryz.prog 134 D_ztg := by unfold D_ztg; exact dk N134.den
end Go.Ab

namespace Go.Ab
open Go Go.Proofs
def zqc (a0 : Correction) (a1 : (List Aid)) : ((List Aid) × Int) :=
 (bif (a0.Kind == 2) then ((zsc a1 a0.Aid).1, (zsc a1 a0.Aid).2) else (bif (a0.Kind == 3) then ((zyc a1 a0.Aid).1, (zyc a1 a0.Aid).2) else (bif ((zxc a1 a0.Aid).1 && (!((zxc a1 a0.Aid).2))) then ([], 6) else ((zzc a1 a0.Aid.Number).1, (zzc a1 a0.Aid.Number).2))))
namespace N135
theorem DD : DOk Tryz.prog (Go.Ab.DD [(183, dP D_zyc), (184, dP D_zzc), (34, dP D_zsc), (80, dP D_zxc)]) := DD_cons D_zyc_ok.e <| DD_cons D_zzc_ok.e <| DD_cons D_zsc_ok.e <| DD_cons D_zxc_ok.e <| DD_nil _
theorem dn : type_of% (And.intro @D_zyc.eq_1 <| And.intro @D_zzc.eq_1 <| And.intro @D_zsc.eq_1 <| @D_zxc.eq_1) := by and_intros <;> intros <;> rfl
theorem den (a0 : Correction) (a1 : (List Aid)) (hb0 : bdCorrection a0) (hb1 : a1.length < 1099511627776) (hb2 : ∀ v ∈ a1, bdAid v) : Den Tryz.prog 135 [.agg (eCorrection a0), encL 16 eAid a1] (.tup [ownL 63 16 eAidO ((zqc a0 a1).1), .int .i64 ((zqc a0 a1).2)]) := by
 generalize hR : zqc a0 a1 = r
 unfold zqc at hR
 refine di Tryz.func135 Tryz.ntmps135 Tryz.results135 ?_
 intro c hL hc hk
 obtain ⟨hL0, hL1, _⟩ := hL
 have hw0 : bwCorrection a0 := Correction_lens a0 hL0
 have hw1 : a1.length < 9223372036854775808 := Nat.lt_succ_of_le (lens_encL hL1).1
 have hw2 : ∀ v ∈ a1, bwAid v := fun v hv => Aid_lens v ((lens_encL hL1).2 v hv)
 clear hL0 hL1
 simp only [pars, Nat.zero_add]
 iterate 3 refine rS ?_
 refine AWP.cond rfl (fun hb => ?_) (fun hb => ?_)
 ·replace hR := ct hR
  refine rS ?_
  refine AWP.ret ?_
  subst hR
  exact es
 ·replace hR := cf hR
  refine rS ?_
  refine AWP.cond rfl (fun hb => ?_) (fun hb => ?_)
  ·replace hR := ct hR
   refine rS ?_
   refine AWP.ret ?_
   subst hR
   exact es
  ·replace hR := cf hR
   iterate 2 refine rS ?_
   refine AWP.cond rfl (fun hb => ?_) (fun hb => ?_)
   ·replace hR := ct hR
    refine rS ?_
    refine AWP.ret ?_
    subst hR
    exact es
   ·replace hR := cf hR
    refine rS ?_
    refine AWP.ret ?_
    subst hR
    exact es
end N135
def D_zqc : DF
 | [x0, x1] => some (.tup [ownL 63 16 eAidO ((zqc (rdG dCorrection x0) (rdL dAid x1)).1), .int .i64 ((zqc (rdG dCorrection x0) (rdL dAid x1)).2)], false, [wG eCorrection dCorrection x0, wL 16 eAid dAid x1, bdCorrection (rdG dCorrection x0), (rdL dAid x1).length < 1099511627776, ∀ v ∈ (rdL dAid x1), bdAid v])
 | _ => none
theorem D_zqc_ok : OkD Tryz.prog 135 D_zqc := by unfold D_zqc; exact dk N135.den
end Go.Ab

namespace Go.Ab
open Go Go.Proofs
theorem patch_all (P : Aid → Prop) (l : List Aid) (n : Correction) (hl : l.length < 9223372036854775807) (hv : ∀ v ∈ l, P v) (ha : P n.Aid) : (∀ v ∈ (zqc n l).1, P v) ∧ (zqc n l).1.length ≤ 25 := by
 unfold zqc
 cases (n.Kind == 2) with
 | true => exact iadd_all P l _ hl hv ha
 | false =>
  simp only [cond_false]
  cases (n.Kind == 3) with
  | true => exact irepl_all P l n.Aid hv ha
  | false =>
   simp only [cond_false]
   cases ((zxc l n.Aid).1 && (!((zxc l n.Aid).2))) with
   | true => exact ⟨fun v hv => by simp at hv, by simp⟩
   | false => exact idrop_all P l n.Aid.Number hl hv
end Go.Ab

namespace Go.Ab
open Go Go.Proofs
def zab_b1 (a0 : (List Aid)) (a1 : (List Correction)) (i1 : Nat) (s1 : Unit) : Except (((List Aid) × Int)) (Unit) :=
 (bif (!(ztg (a1.getD i1 default))) then .error ([], 1) else .ok ())
def zab_b2 (a0 : (List Aid)) (a1 : (List Correction)) (s1 : Unit) (i2 : Nat) (s2 : List Aid) : Except (((List Aid) × Int)) (List Aid) :=
 (bif (((zqc (a1.getD i2 default) s2).2) != 0) then .error ([], (zqc (a1.getD i2 default) s2).2) else .ok ((zqc (a1.getD i2 default) s2).1))
def zab (a0 : (List Aid)) (a1 : (List Correction)) : ((List Aid) × Int) :=
 (bif (!(zq a0)) then ([], 1) else (match loopR (zab_b1 a0 a1) (a1.length - 0) 0 () with | .error e => e | .ok s1 => (match loopR (zab_b2 a0 a1 s1) (a1.length - 0) 0 (zv a0) with | .error e => e | .ok s2 => (s2, 0))))
namespace N61
theorem DD : DOk Tryz.prog (Go.Ab.DD [(134, dP D_ztg), (135, dP D_zqc), (79, dP D_zq), (96, dP D_zv)]) := DD_cons D_ztg_ok.e <| DD_cons D_zqc_ok.e <| DD_cons D_zq_ok.e <| DD_cons D_zv_ok.e <| DD_nil _
theorem dn : type_of% (And.intro @D_ztg.eq_1 <| And.intro @D_zqc.eq_1 <| And.intro @D_zq.eq_1 <| @D_zv.eq_1) := by and_intros <;> intros <;> rfl
theorem ol : type_of% (@copyAids_id) := @copyAids_id
theorem gr {p : Prop} (h : p := by (grind [vAids_len]); first | done | fail) : p := h
theorem o1 {p : Prop} (h : p := by (first | (have h9 := hvl (by assumption); omega)); first | done | fail) : p := h
theorem den (a0 : (List Aid)) (a1 : (List Correction)) (hb0 : a0.length < 1099511627776) (hb1 : ∀ v ∈ a0, bdAid v) (hb2 : a1.length < 1099511627776) (hb3 : ∀ v ∈ a1, bdCorrection v) (hp0 : a1.length ≤ 1048576) : Den Tryz.prog 61 [encL 16 eAid a0, encL 17 eCorrection a1] (.tup [ownL 63 16 eAidO ((zab a0 a1).1), .int .i64 ((zab a0 a1).2)]) := by
 generalize hR : zab a0 a1 = r
 unfold zab at hR
 refine di Tryz.func61 Tryz.ntmps61 Tryz.results61 ?_
 intro c hL hc hk
 obtain ⟨hL0, hL1, _⟩ := hL
 have hw0 : a0.length < 9223372036854775808 := Nat.lt_succ_of_le (lens_encL hL0).1
 have hw1 : ∀ v ∈ a0, bwAid v := fun v hv => Aid_lens v ((lens_encL hL0).2 v hv)
 have hw2 : a1.length < 9223372036854775808 := Nat.lt_succ_of_le (lens_encL hL1).1
 have hw3 : ∀ v ∈ a1, bwCorrection v := fun v hv => Correction_lens v ((lens_encL hL1).2 v hv)
 clear hL0 hL1
 simp only [pars, Nat.zero_add]
 have hvl : (!zq a0) = false → a0.length ≤ 24 := fun h => vAids_len (by simpa using h)
 iterate 2 refine rS ?_
 refine AWP.cond rfl (fun hb => ?_) (fun hb => ?_)
 ·replace hR := ct hR
  refine rS ?_
  refine AWP.ret ?_
  subst hR
  exact es
 ·replace hR := cf hR
  refine rS ?_
  refine AWP.block ?_
  generalize hz1 : loopR (zab_b1 a0 a1) (a1.length - 0) 0 () = z1 at hR
  refine AWP.range (zab_b1 a0 a1) (fun i1 s1 => ⟨[(0, encL 16 eAid a0), (1, encL 17 eCorrection a1), (16, encL 17 eCorrection a1), (17, .int .i64 (a1.length : Int)), (18, .int .i64 (i1 : Int))], []⟩) (fun i1 s1 => True) (a1.length) 0 () [] hz1 ot wt sm ?_
  clear hz1
  intro i1 s1 hi1 hW1 hz1
  refine rS ?_
  refine AWP.seq ?_
  refine AWP.cond rfl (fun hb => ?_) (fun hb => ?_)
  ·have hlt1 : i1 < a1.length := ot
   rw [loopR_lt hlt1] at hz1; simp only [zab_b1] at hz1
   iterate 2 refine rS ?_
   refine AWP.cond rfl (fun hb => ?_) (fun hb => ?_)
   ·simp only [hb, cond_true] at hz1
    refine rS ?_
    refine AWP.ret ?_
    subst hz1
    dsimp only at hR
    subst hR
    exact es
   ·simp only [hb, cond_false] at hz1
    refine rS ?_
    exact ⟨_, [], hlt1, wt, hz1, sm⟩
  ·obtain rfl : i1 = a1.length := ot
   rw [loopR_ge (Nat.le_refl _)] at hz1; subst hz1; dsimp only at hR
   refine AWP.exit ?_; refine exitTo_here ?_
   iterate 2 refine rS ?_
   refine AWP.block ?_
   generalize hz2 : loopR (zab_b2 a0 a1 s1) (a1.length - 0) 0 (zv a0) = z2 at hR
   refine AWP.range (zab_b2 a0 a1 s1) (fun i2 s2 => ⟨[(8, .ref 0 16 0 s2.length), (28, encL 17 eCorrection a1), (29, .int .i64 (a1.length : Int)), (30, .int .i64 (i2 : Int))], [.arr 63 16 s2.length (fun j => eAidO (s2.getD j default))]⟩) (fun i2 s2 => (∀ v ∈ s2, bdAid v) ∧ s2.length ≤ 1048576) (a1.length) 0 (zv a0) [0] hz2 ot (by (simp only [copyAids_id]; exact ⟨by assumption, by have h9 := hvl (by assumption); omega⟩)) sm ?_
   clear hz2
   intro i2 s2 hi2 hW2 hz2
   have hV2 := hW2; obtain ⟨hV2_0, hV2_1⟩ := hV2
   refine rS ?_
   refine AWP.seq ?_
   refine AWP.cond rfl (fun hb => ?_) (fun hb => ?_)
   ·have hlt2 : i2 < a1.length := ot
    rw [loopR_lt hlt2] at hz2; simp only [zab_b2] at hz2
    iterate 3 refine rS ?_
    refine AWP.cond rfl (fun hb => ?_) (fun hb => ?_)
    ·simp only [hb, cond_true] at hz2
     refine rS ?_
     refine AWP.ret ?_
     subst hz2
     dsimp only at hR
     subst hR
     exact es
    ·simp only [hb, cond_false] at hz2
     iterate 2 refine rS ?_
     exact ⟨_, [2], hlt2, by (have h9 := patch_all bdAid s2 (a1.getD i2 default) (by have h1 := hW2.2; omega) hW2.1 (bd_getD (p := bdCorrection) (by assumption) (by decide) i2); exact ⟨h9.1, by have h1 := hW2.2; have h2 := h9.2; omega⟩), hz2, sm⟩
   ·obtain rfl : i2 = a1.length := ot
    rw [loopR_ge (Nat.le_refl _)] at hz2; subst hz2; dsimp only at hR
    refine AWP.exit ?_; refine exitTo_here ?_
    refine rS ?_
    refine AWP.ret ?_
    subst hR
    exact es
end N61
def D_zab : DF
 | [x0, x1] => some (.tup [ownL 63 16 eAidO ((zab (rdL dAid x0) (rdL dCorrection x1)).1), .int .i64 ((zab (rdL dAid x0) (rdL dCorrection x1)).2)], false, [wL 16 eAid dAid x0, wL 17 eCorrection dCorrection x1, (rdL dAid x0).length < 1099511627776, ∀ v ∈ (rdL dAid x0), bdAid v, (rdL dCorrection x1).length < 1099511627776, ∀ v ∈ (rdL dCorrection x1), bdCorrection v, (rdL dCorrection x1).length ≤ 1048576])
 | _ => none
theorem D_zab_ok : OkD Tryz.prog 61 D_zab := by unfold D_zab; exact dk N61.den
end Go.Ab

namespace Go.Ab
open Go Go.Proofs
def zuf (a0 : Correction) : Bool :=
 ((ze a0.Kind 1 3) && (zeb a0.Aid))
namespace N131
theorem DD : DOk Tryz.prog (Go.Ab.DD [(137, dP D_ze), (87, dP D_zeb)]) := DD_cons D_ze_ok.e <| DD_cons D_zeb_ok.e <| DD_nil _
theorem dn : type_of% (And.intro @D_ze.eq_1 <| @D_zeb.eq_1) := by and_intros <;> intros <;> rfl
theorem ol : type_of% (@ze.eq_1) := @ze.eq_1
theorem den (a0 : Correction) (hb0 : bdCorrection a0) : Den Tryz.prog 131 [.ep (eCorrection a0)] (.bool (zuf a0)) := by
 generalize hR : zuf a0 = r
 unfold zuf at hR
 refine di Tryz.func131 Tryz.ntmps131 Tryz.results131 ?_
 intro c hL hc hk
 obtain ⟨hL0, _⟩ := hL
 have hw0 : bwCorrection a0 := Correction_lens a0 hL0
 clear hL0
 simp only [pars, Nat.zero_add]
 iterate 2 refine rS ?_
 refine AWP.ret ?_
 subst hR
 exact es
end N131
def D_zuf : DF
 | [x0] => some (.bool (zuf (rdP dCorrection x0)), false, [wP eCorrection dCorrection x0, bdCorrection (rdP dCorrection x0)])
 | _ => none
theorem D_zuf_ok : OkD Tryz.prog 131 D_zuf := by unfold D_zuf; exact dk N131.den
end Go.Ab

namespace Go.Ab
open Go Go.Proofs
def zbb (a0 : (List Aid)) (a1 : Correction) : ((List Aid) × Int) :=
 (bif (a1.Kind == 2) then ((zfb a0 a1.Aid).1, (zfb a0 a1.Aid).2) else (bif (a1.Kind == 3) then ((znc a0 a1.Aid).1, (znc a0 a1.Aid).2) else (bif (decide (0 ≤ (zh a0 a1.Aid.Number)) && (!(zhb (a0.getD (((zh a0 a1.Aid.Number)).toNat) default) a1.Aid))) then ([], 6) else ((zoc a0 a1.Aid.Number).1, (zoc a0 a1.Aid.Number).2))))
namespace N181
theorem DD : DOk Tryz.prog (Go.Ab.DD [(105, dP D_zhb), (142, dP D_zh), (216, dP D_znc), (217, dP D_zoc), (88, dP D_zfb)]) := DD_cons D_zhb_ok.e <| DD_cons D_zh_ok.e <| DD_cons D_znc_ok.e <| DD_cons D_zoc_ok.e <| DD_cons D_zfb_ok.e <| DD_nil _
theorem dn : type_of% (And.intro @D_zhb.eq_1 <| And.intro @D_zh.eq_1 <| And.intro @D_znc.eq_1 <| And.intro @D_zoc.eq_1 <| @D_zfb.eq_1) := by and_intros <;> intros <;> rfl
theorem gr {p : Prop} (h : p := by (grind [zh_lt]); first | done | fail) : p := h
theorem den (a0 : (List Aid)) (a1 : Correction) (hb0 : a0.length < 1099511627776) (hb1 : ∀ v ∈ a0, bdAid v) (hb2 : bdCorrection a1) (hp0 : a0.length ≤ 1073741824) : Den Tryz.prog 181 [encL 16 eAid a0, .ep (eCorrection a1)] (.tup [ownL 63 16 eAidO ((zbb a0 a1).1), .int .i64 ((zbb a0 a1).2)]) := by
 generalize hR : zbb a0 a1 = r
 unfold zbb at hR
 refine di Tryz.func181 Tryz.ntmps181 Tryz.results181 ?_
 intro c hL hc hk
 obtain ⟨hL0, hL1, _⟩ := hL
 have hw0 : a0.length < 9223372036854775808 := Nat.lt_succ_of_le (lens_encL hL0).1
 have hw1 : ∀ v ∈ a0, bwAid v := fun v hv => Aid_lens v ((lens_encL hL0).2 v hv)
 have hw2 : bwCorrection a1 := Correction_lens a1 hL1
 clear hL0 hL1
 simp only [pars, Nat.zero_add]
 have hix := zh_lt a0 a1.Aid.Number
 iterate 3 refine rS ?_
 refine AWP.cond rfl (fun hb => ?_) (fun hb => ?_)
 ·replace hR := ct hR
  refine rS ?_
  refine AWP.ret ?_
  subst hR
  exact es
 ·replace hR := cf hR
  refine rS ?_
  refine AWP.cond rfl (fun hb => ?_) (fun hb => ?_)
  ·replace hR := ct hR
   refine rS ?_
   refine AWP.ret ?_
   subst hR
   exact es
  ·replace hR := cf hR
   refine rS ?_
   refine rD 12 ?_
   refine AWP.cond rfl (fun hb => ?_) (fun hb => ?_)
   ·replace hR := ct hR
    refine rS ?_
    refine AWP.ret ?_
    subst hR
    exact es
   ·replace hR := cf hR
    refine rS ?_
    refine AWP.ret ?_
    subst hR
    exact es
end N181
def D_zbb : DF
 | [x0, x1] => some (.tup [ownL 63 16 eAidO ((zbb (rdL dAid x0) (rdP dCorrection x1)).1), .int .i64 ((zbb (rdL dAid x0) (rdP dCorrection x1)).2)], false, [wL 16 eAid dAid x0, wP eCorrection dCorrection x1, (rdL dAid x0).length < 1099511627776, ∀ v ∈ (rdL dAid x0), bdAid v, bdCorrection (rdP dCorrection x1), (rdL dAid x0).length ≤ 1073741824])
 | _ => none
theorem D_zbb_ok : OkD Tryz.prog 181 D_zbb := by unfold D_zbb; exact dk N181.den
end Go.Ab

namespace Go.Ab
open Go Go.Proofs
theorem make_all (P : Aid → Prop) (l : List Aid) (n : Correction) (hl : l.length < 9223372036854775807) (hv : ∀ v ∈ l, P v) (ha : P n.Aid) : (∀ v ∈ (zbb l n).1, P v) ∧ (zbb l n).1.length ≤ l.length + 1 := by
 unfold zbb
 cases (n.Kind == 2) with
 | true => exact put_all P l _ hl hv ha
 | false =>
  simp only [cond_false]
  cases (n.Kind == 3) with
  | true => have := repl_all P l n.Aid hv ha; exact ⟨this.1, Nat.le_succ_of_le this.2⟩
  | false =>
   simp only [cond_false]
   cases (decide (0 ≤ (zh l n.Aid.Number)) && (!(zhb (l.getD (((zh l n.Aid.Number)).toNat) default) n.Aid))) with
   | true => exact ⟨fun v hv => by simp at hv, by simp⟩
   | false => have := drop_all P l n.Aid.Number hl hv; exact ⟨this.1, Nat.le_succ_of_le this.2⟩
end Go.Ab

namespace Go.Ab
open Go Go.Proofs
def zxd_b1 (a0 : (List Aid)) (a1 : (List Correction)) (i1 : Nat) (s1 : List Aid) : Except (((List Aid) × Int)) (List Aid) :=
 (bif (((zbb s1 (a1.getD i1 default)).2) != 0) then .error ([], (zbb s1 (a1.getD i1 default)).2) else .ok ((zbb s1 (a1.getD i1 default)).1))
def zxd (a0 : (List Aid)) (a1 : (List Correction)) : ((List Aid) × Int) :=
 (match loopR (zxd_b1 a0 a1) (a1.length - 0) 0 (zu a0) with | .error e => e | .ok s1 => (s1, 0))
namespace N132
theorem DD : DOk Tryz.prog (Go.Ab.DD [(155, dP D_zu), (181, dP D_zbb)]) := DD_cons D_zu_ok.e <| DD_cons D_zbb_ok.e <| DD_nil _
theorem dn : type_of% (And.intro @D_zu.eq_1 <| @D_zbb.eq_1) := by and_intros <;> intros <;> rfl
theorem ol : type_of% (@ownAids_id) := @ownAids_id
theorem den (a0 : (List Aid)) (a1 : (List Correction)) (hb0 : a0.length < 1099511627776) (hb1 : ∀ v ∈ a0, bdAid v) (hb2 : a1.length < 1099511627776) (hb3 : ∀ v ∈ a1, bdCorrection v) (hp0 : a0.length ≤ 1048576) (hp1 : a1.length ≤ 1048576) : Den Tryz.prog 132 [encL 16 eAid a0, encL 17 eCorrection a1] (.tup [ownL 63 16 eAidO ((zxd a0 a1).1), .int .i64 ((zxd a0 a1).2)]) := by
 generalize hR : zxd a0 a1 = r
 unfold zxd at hR
 refine di Tryz.func132 Tryz.ntmps132 Tryz.results132 ?_
 intro c hL hc hk
 obtain ⟨hL0, hL1, _⟩ := hL
 have hw0 : a0.length < 9223372036854775808 := Nat.lt_succ_of_le (lens_encL hL0).1
 have hw1 : ∀ v ∈ a0, bwAid v := fun v hv => Aid_lens v ((lens_encL hL0).2 v hv)
 have hw2 : a1.length < 9223372036854775808 := Nat.lt_succ_of_le (lens_encL hL1).1
 have hw3 : ∀ v ∈ a1, bwCorrection v := fun v hv => Correction_lens v ((lens_encL hL1).2 v hv)
 clear hL0 hL1
 simp only [pars, Nat.zero_add]
 iterate 3 refine rS ?_
 refine AWP.block ?_
 generalize hz1 : loopR (zxd_b1 a0 a1) (a1.length - 0) 0 (zu a0) = z1 at hR
 refine AWP.range (zxd_b1 a0 a1) (fun i1 s1 => ⟨[(1, encL 17 eCorrection a1), (6, .ref 0 16 0 s1.length), (7, .int .i64 (i1 : Int))], [.arr 63 16 s1.length (fun j => eAidO (s1.getD j default))]⟩) (fun i1 s1 => (∀ v ∈ s1, bdAid v) ∧ s1.length ≤ a0.length + i1) (a1.length) 0 (zu a0) [0] hz1 ot (by (simp only [copyAids_id, ownAids_id]; exact ⟨by assumption, by omega⟩)) sm ?_
 clear hz1
 intro i1 s1 hi1 hW1 hz1
 have hV1 := hW1; obtain ⟨hV1_0, hV1_1⟩ := hV1
 refine rS ?_
 refine AWP.cond rfl (fun hb => ?_) (fun hb => ?_)
 ·have hlt1 : i1 < a1.length := ot
  rw [loopR_lt hlt1] at hz1; simp only [zxd_b1] at hz1
  iterate 2 refine rS ?_
  refine AWP.cond rfl (fun hb => ?_) (fun hb => ?_)
  ·simp only [hb, cond_true] at hz1
   refine rS ?_
   refine AWP.ret ?_
   subst hz1
   dsimp only at hR
   subst hR
   exact es
  ·simp only [hb, cond_false] at hz1
   iterate 2 refine rS ?_
   exact ⟨_, [1], hlt1, by (have h9 := make_all bdAid s1 (a1.getD i1 default) (by have h1 := hW1.2; omega) hW1.1 (bd_getD (p := bdCorrection) (by assumption) (by decide) i1); exact ⟨h9.1, by have h1 := hW1.2; have h2 := h9.2; omega⟩), hz1, sm⟩
 ·obtain rfl : i1 = a1.length := ot
  rw [loopR_ge (Nat.le_refl _)] at hz1; subst hz1; dsimp only at hR
  refine AWP.exit ?_; refine exitTo_here ?_
  refine rS ?_
  refine AWP.ret ?_
  subst hR
  exact es
end N132
def D_zxd : DF
 | [x0, x1] => some (.tup [ownL 63 16 eAidO ((zxd (rdL dAid x0) (rdL dCorrection x1)).1), .int .i64 ((zxd (rdL dAid x0) (rdL dCorrection x1)).2)], false, [wL 16 eAid dAid x0, wL 17 eCorrection dCorrection x1, (rdL dAid x0).length < 1099511627776, ∀ v ∈ (rdL dAid x0), bdAid v, (rdL dCorrection x1).length < 1099511627776, ∀ v ∈ (rdL dCorrection x1), bdCorrection v, (rdL dAid x0).length ≤ 1048576, (rdL dCorrection x1).length ≤ 1048576])
 | _ => none
theorem D_zxd_ok : OkD Tryz.prog 132 D_zxd := by unfold D_zxd; exact dk N132.den
end Go.Ab

namespace Go.Ab
open Go Go.Proofs
def zpb_b1 (a0 : (List Aid)) (a1 : (List Correction)) (i1 : Nat) (s1 : Unit) : Except (((List Aid) × Int)) (Unit) :=
 (bif (!(zuf (a1.getD i1 default))) then .error ([], 1) else .ok ())
def zpb (a0 : (List Aid)) (a1 : (List Correction)) : ((List Aid) × Int) :=
 (bif (!(zr a0)) then ([], 1) else (match loopR (zpb_b1 a0 a1) (a1.length - 0) 0 () with | .error e => e | .ok s1 => ((zxd a0 a1).1, (zxd a0 a1).2)))
namespace N59
theorem DD : DOk Tryz.prog (Go.Ab.DD [(131, dP D_zuf), (132, dP D_zxd), (77, dP D_zr)]) := DD_cons D_zuf_ok.e <| DD_cons D_zxd_ok.e <| DD_cons D_zr_ok.e <| DD_nil _
theorem dn : type_of% (And.intro @D_zuf.eq_1 <| And.intro @D_zxd.eq_1 <| @D_zr.eq_1) := by and_intros <;> intros <;> rfl
theorem gr {p : Prop} (h : p := by (grind [l12Ok_len]); first | done | fail) : p := h
theorem o1 {p : Prop} (h : p := by (first | (have h9 := hvl (by assumption); omega)); first | done | fail) : p := h
theorem den (a0 : (List Aid)) (a1 : (List Correction)) (hb0 : a0.length < 1099511627776) (hb1 : ∀ v ∈ a0, bdAid v) (hb2 : a1.length < 1099511627776) (hb3 : ∀ v ∈ a1, bdCorrection v) (hp0 : a1.length ≤ 1048576) : Den Tryz.prog 59 [encL 16 eAid a0, encL 17 eCorrection a1] (.tup [ownL 63 16 eAidO ((zpb a0 a1).1), .int .i64 ((zpb a0 a1).2)]) := by
 generalize hR : zpb a0 a1 = r
 unfold zpb at hR
 refine di Tryz.func59 Tryz.ntmps59 Tryz.results59 ?_
 intro c hL hc hk
 obtain ⟨hL0, hL1, _⟩ := hL
 have hw0 : a0.length < 9223372036854775808 := Nat.lt_succ_of_le (lens_encL hL0).1
 have hw1 : ∀ v ∈ a0, bwAid v := fun v hv => Aid_lens v ((lens_encL hL0).2 v hv)
 have hw2 : a1.length < 9223372036854775808 := Nat.lt_succ_of_le (lens_encL hL1).1
 have hw3 : ∀ v ∈ a1, bwCorrection v := fun v hv => Correction_lens v ((lens_encL hL1).2 v hv)
 clear hL0 hL1
 simp only [pars, Nat.zero_add]
 have hvl : (!zr a0) = false → a0.length ≤ 24 := fun h => l12Ok_len (by simpa using h)
 iterate 2 refine rS ?_
 refine AWP.cond rfl (fun hb => ?_) (fun hb => ?_)
 ·replace hR := ct hR
  refine rS ?_
  refine AWP.ret ?_
  subst hR
  exact es
 ·replace hR := cf hR
  refine rS ?_
  refine AWP.block ?_
  generalize hz1 : loopR (zpb_b1 a0 a1) (a1.length - 0) 0 () = z1 at hR
  refine AWP.range (zpb_b1 a0 a1) (fun i1 s1 => ⟨[(0, encL 16 eAid a0), (1, encL 17 eCorrection a1), (6, .int .i64 (i1 : Int))], []⟩) (fun i1 s1 => True) (a1.length) 0 () [] hz1 ot wt sm ?_
  clear hz1
  intro i1 s1 hi1 hW1 hz1
  refine rS ?_
  refine AWP.cond rfl (fun hb => ?_) (fun hb => ?_)
  ·have hlt1 : i1 < a1.length := ot
   rw [loopR_lt hlt1] at hz1; simp only [zpb_b1] at hz1
   refine rS ?_
   refine AWP.cond rfl (fun hb => ?_) (fun hb => ?_)
   ·simp only [hb, cond_true] at hz1
    refine rS ?_
    refine AWP.ret ?_
    subst hz1
    dsimp only at hR
    subst hR
    exact es
   ·simp only [hb, cond_false] at hz1
    refine rS ?_
    exact ⟨_, [], hlt1, wt, hz1, sm⟩
  ·obtain rfl : i1 = a1.length := ot
   rw [loopR_ge (Nat.le_refl _)] at hz1; subst hz1; dsimp only at hR
   refine AWP.exit ?_; refine exitTo_here ?_
   refine rS ?_
   refine AWP.ret ?_
   subst hR
   exact es
end N59
def D_zpb : DF
 | [x0, x1] => some (.tup [ownL 63 16 eAidO ((zpb (rdL dAid x0) (rdL dCorrection x1)).1), .int .i64 ((zpb (rdL dAid x0) (rdL dCorrection x1)).2)], false, [wL 16 eAid dAid x0, wL 17 eCorrection dCorrection x1, (rdL dAid x0).length < 1099511627776, ∀ v ∈ (rdL dAid x0), bdAid v, (rdL dCorrection x1).length < 1099511627776, ∀ v ∈ (rdL dCorrection x1), bdCorrection v, (rdL dCorrection x1).length ≤ 1048576])
 | _ => none
theorem D_zpb_ok : OkD Tryz.prog 59 D_zpb := by unfold D_zpb; exact dk N59.den
end Go.Ab

namespace Go.Ab
open Go Go.Proofs
theorem valCorr_eq (x : Correction) (h : aidL x.Aid) : ztg x = zuf x := by
 unfold ztg zuf
 rw [validAid_eq _ h.1 h.2]
 rfl
theorem hasAid_eq (l : List Aid) (a : Aid) (hl : l.length < 9223372036854775808) : zxc l a = (hasN l a.Number, hasN l a.Number && zhb (l.getD (upto l a.Number) default) a) := by
 unfold zxc
 rw [aidOf_eq' l _ hl, sameAid_eq]
 simp only [Int.toNat_natCast]
theorem patch1_eq (P : Aid → Prop) (hP : ∀ v, P v → aidL v) (x : Correction) (s : List Aid) (hs : okP P s) (hx : zeb x.Aid = true) (ha : P x.Aid) :
  zqc x s = zbb s x ∧ ((zbb s x).2 = 0 → okP P (zbb s x).1) := by
 unfold zqc zbb
 have hv : ∀ v ∈ s, aidL v := fun v h => hP v (hs.2 v h)
 have hlen := hs.1.2.2
 cases h1 : (x.Kind == 2) with
 | true =>
  simp only [cond_true]
  rw [addAid_put s x.Aid hs.1 hv (hP _ ha) hx]
  exact ⟨rfl, fun h => put_okP P hs ⟨hx, ha⟩ (Prod.ext rfl h)⟩
 | false =>
  simp only [cond_false]
  cases h2 : (x.Kind == 3) with
  | true =>
   simp only [cond_true]
   rw [replAid_eq s x.Aid hs.1 hv (hP _ ha) hx]
   exact ⟨rfl, fun h => repl_okP P hs ⟨hx, ha⟩ (Prod.ext rfl h)⟩
  | false =>
   simp only [cond_false]
   rw [hasAid_eq s x.Aid (by omega), dropAid_eq s _ hs.1 hv]
   have e : (hasN s x.Aid.Number && (!(hasN s x.Aid.Number && zhb (s.getD (upto s x.Aid.Number) default) x.Aid))) = (decide (0 ≤ (zh s x.Aid.Number)) && (!(zhb (s.getD (((zh s x.Aid.Number)).toNat) default) x.Aid))) := by
    rw [find_eq s _ hs.1.2.1]
    cases hasN s x.Aid.Number with
    | true =>
     simp only [cond_true, Int.toNat_natCast, Bool.true_and]
     rw [decide_eq_true (by omega), Bool.true_and]
    | false => rfl
   dsimp only
   rw [e]
   cases (decide (0 ≤ (zh s x.Aid.Number)) && (!(zhb (s.getD (((zh s x.Aid.Number)).toNat) default) x.Aid))) with
   | true => exact ⟨rfl, fun h => by simp at h⟩
   | false => exact ⟨rfl, fun h => drop_okP P hs (Prod.ext rfl h)⟩
theorem patchAids_eq (P : Aid → Prop) (hP : ∀ v, P v → aidL v) (l : List Aid) (all : List Correction) (hl : ∀ v ∈ l, P v) (ha : ∀ x ∈ all, P x.Aid) :
  zab l all = zpb l all ∧ (∀ v ∈ (zpb l all).1, P v) ∧ (zpb l all).1.length ≤ 24 := by
 unfold zab zpb
 rw [validAids_eq l (fun v h => hP v (hl v h))]
 cases hk : zr l with
 | false => exact ⟨rfl, fun v hv => by simp at hv, by simp⟩
 | true =>
  simp only [Bool.not_true, cond_false]
  have hok : okP P l := ⟨(okA_iff l).1 hk, hl⟩
  have hb1 : ∀ j u, j < all.length → zab_b1 l all j u = zpb_b1 l all j u := fun j u hj => by
   simp only [zab_b1, zpb_b1]
   have : all.getD j default ∈ all := by
    rw [List.getD_eq_getElem?_getD, List.getElem?_eq_getElem hj]
    exact List.getElem_mem hj
   rw [valCorr_eq _ (hP _ (ha _ this))]
  rw [loopR_same (b := zab_b1 l all) (b' := zpb_b1 l all) (all.length - 0) 0 () (fun j u _ hj => hb1 j u (by omega))]
  rcases loopR_first (b := zpb_b1 l all) (fun j => !(zuf (all.getD j default))) (fun _ => (([] : List Aid), (1 : Int))) (k := all.length - 0) (i := 0) (s := ()) (fun j u _ _ => rfl) with ⟨j, _, _, _, _, h5⟩ | ⟨h1, h2⟩
  ·rw [h5]; exact ⟨rfl, fun v hv => by simp at hv, by simp⟩
  ·rw [h2]
   have hone : ∀ x ∈ all, zeb x.Aid = true := by
    intro x hx
    obtain ⟨j, hj, rfl⟩ := List.getElem_of_mem hx
    have := h1 j (Nat.zero_le _) (by omega)
    rw [List.getD_eq_getElem?_getD, List.getElem?_eq_getElem hj] at this
    unfold zuf at this
    have h3 : (ze all[j].Kind 1 3 && zeb all[j].Aid) = true := by simpa using this
    rw [Bool.and_eq_true] at h3
    exact h3.2
   unfold zxd
   dsimp only
   rw [copyAids_id, ownAids_id]
   rw [loopR_foldE all (zab_b2 l all ()) (fun x s => bif (((zqc x s).2) != 0) then .error ([], (zqc x s).2) else .ok ((zqc x s).1)) l (fun i s _ => rfl)]
   rw [loopR_foldE all (zxd_b1 l all) (fun x s => bif (((zbb s x).2) != 0) then .error ([], (zbb s x).2) else .ok ((zbb s x).1)) l (fun i s _ => rfl)]
   obtain ⟨g1, g2⟩ := foldE_same (ρ := List Aid × Int) (okP P) (fun x s => bif (((zqc x s).2) != 0) then .error ([], (zqc x s).2) else .ok ((zqc x s).1))
    (fun x s => bif (((zbb s x).2) != 0) then .error ([], (zbb s x).2) else .ok ((zbb s x).1)) all l hok (fun x hx s hs => by
     obtain ⟨q1, q2⟩ := patch1_eq P hP x s hs (hone x hx) (ha x hx)
     rw [q1]
     refine ⟨rfl, fun t ht => ?_⟩
     cases hz : ((zbb s x).2 != 0) with
     | true => rw [hz] at ht; cases ht
     | false =>
      rw [hz] at ht
      simp only [cond_false, Except.ok.injEq] at ht
      subst ht
      exact q2 (by simpa using hz))
   rw [g1]
   have herr : ∀ (r : List Correction) (s : List Aid) (x : List Aid × Int), foldE (ρ := List Aid × Int) (fun x s => bif (((zbb s x).2) != 0) then .error ([], (zbb s x).2) else .ok ((zbb s x).1)) r s = .error x → x.1 = [] := by
    intro r
    induction r with
    | nil => intro s x h; simp [foldE] at h
    | cons n r ih =>
     intro s x h
     simp only [foldE] at h
     cases hz : ((zbb s n).2 != 0) with
     | true =>
      simp only [hz, cond_true, Except.error.injEq] at h
      subst h
      rfl
     | false => simp only [hz, cond_false] at h; exact ih _ _ h
   cases hc : foldE (ρ := List Aid × Int) (fun x s => bif (((zbb s x).2) != 0) then .error ([], (zbb s x).2) else .ok ((zbb s x).1)) all l with
   | error x =>
    have h9 := herr all l x hc
    refine ⟨rfl, ?_⟩
    simp only [h9]
    exact ⟨fun v hv => by simp at hv, by simp⟩
   | ok t =>
    have h9 := g2 t hc
    exact ⟨rfl, h9.2, h9.1.2.2⟩
end Go.Ab

namespace Go.Ab
open Go Go.Proofs
def zyb_b1 (a0 : (List Correction)) (a1 : Int) (i1 : Nat) (s1 : Int × List Correction) : Except (Int × (List Correction)) (Int × List Correction) :=
 .ok (IntKind.wrap .i64 (((zk (((s1.2.getD i1 default).Aid).Sectors) (IntKind.wrap .i64 ((IntKind.wrap .i64 ((IntKind.wrap .i64 (((za ((((s1.2.getD i1 default).Aid).Light).Group) (IntKind.wrap .i64 ((IntKind.wrap .i64 ((IntKind.wrap .i64 ((IntKind.wrap .i64 ((IntKind.wrap .i64 ((IntKind.wrap .i64 ((IntKind.wrap .i64 ((IntKind.wrap .i64 ((IntKind.wrap .i64 ((IntKind.wrap .i64 ((IntKind.wrap .i64 (s1.1 + 1)) + 1)) + 1)) + 1)) + 1)) + 1)) + 1)) + 1)) + 1)) + 1)) + 1))).1) + 1)) + 1)) + 1))).1) + 1), s1.2.set i1 ({ Kind := s1.1, Aid := { Number := IntKind.wrap .i64 (s1.1 + 1), Name := (zf (IntKind.wrap .i64 ((IntKind.wrap .i64 (s1.1 + 1)) + 1))), At := { X := IntKind.wrap .i64 ((IntKind.wrap .i64 ((IntKind.wrap .i64 (s1.1 + 1)) + 1)) + 1), Y := IntKind.wrap .i64 ((IntKind.wrap .i64 ((IntKind.wrap .i64 ((IntKind.wrap .i64 (s1.1 + 1)) + 1)) + 1)) + 1) : Point }, Height := IntKind.wrap .i64 ((IntKind.wrap .i64 ((IntKind.wrap .i64 ((IntKind.wrap .i64 ((IntKind.wrap .i64 (s1.1 + 1)) + 1)) + 1)) + 1)) + 1), Mark := { Kind := IntKind.wrap .i64 ((IntKind.wrap .i64 ((IntKind.wrap .i64 ((IntKind.wrap .i64 ((IntKind.wrap .i64 ((IntKind.wrap .i64 (s1.1 + 1)) + 1)) + 1)) + 1)) + 1)) + 1), Colors := (zf (IntKind.wrap .i64 ((IntKind.wrap .i64 ((IntKind.wrap .i64 ((IntKind.wrap .i64 ((IntKind.wrap .i64 ((IntKind.wrap .i64 ((IntKind.wrap .i64 (s1.1 + 1)) + 1)) + 1)) + 1)) + 1)) + 1)) + 1))), Shape := (zf (IntKind.wrap .i64 ((IntKind.wrap .i64 ((IntKind.wrap .i64 ((IntKind.wrap .i64 ((IntKind.wrap .i64 ((IntKind.wrap .i64 ((IntKind.wrap .i64 ((IntKind.wrap .i64 (s1.1 + 1)) + 1)) + 1)) + 1)) + 1)) + 1)) + 1)) + 1))), Topmark := (zf (IntKind.wrap .i64 ((IntKind.wrap .i64 ((IntKind.wrap .i64 ((IntKind.wrap .i64 ((IntKind.wrap .i64 ((IntKind.wrap .i64 ((IntKind.wrap .i64 ((IntKind.wrap .i64 ((IntKind.wrap .i64 (s1.1 + 1)) + 1)) + 1)) + 1)) + 1)) + 1)) + 1)) + 1)) + 1))) : Mark }, Light := { Kind := IntKind.wrap .i64 ((IntKind.wrap .i64 ((IntKind.wrap .i64 ((IntKind.wrap .i64 ((IntKind.wrap .i64 ((IntKind.wrap .i64 ((IntKind.wrap .i64 ((IntKind.wrap .i64 ((IntKind.wrap .i64 ((IntKind.wrap .i64 (s1.1 + 1)) + 1)) + 1)) + 1)) + 1)) + 1)) + 1)) + 1)) + 1)) + 1), Group := (za ((((s1.2.getD i1 default).Aid).Light).Group) (IntKind.wrap .i64 ((IntKind.wrap .i64 ((IntKind.wrap .i64 ((IntKind.wrap .i64 ((IntKind.wrap .i64 ((IntKind.wrap .i64 ((IntKind.wrap .i64 ((IntKind.wrap .i64 ((IntKind.wrap .i64 ((IntKind.wrap .i64 ((IntKind.wrap .i64 (s1.1 + 1)) + 1)) + 1)) + 1)) + 1)) + 1)) + 1)) + 1)) + 1)) + 1)) + 1))).2, Letter := (zf ((za ((((s1.2.getD i1 default).Aid).Light).Group) (IntKind.wrap .i64 ((IntKind.wrap .i64 ((IntKind.wrap .i64 ((IntKind.wrap .i64 ((IntKind.wrap .i64 ((IntKind.wrap .i64 ((IntKind.wrap .i64 ((IntKind.wrap .i64 ((IntKind.wrap .i64 ((IntKind.wrap .i64 ((IntKind.wrap .i64 (s1.1 + 1)) + 1)) + 1)) + 1)) + 1)) + 1)) + 1)) + 1)) + 1)) + 1)) + 1))).1)), Colors := (zf (IntKind.wrap .i64 (((za ((((s1.2.getD i1 default).Aid).Light).Group) (IntKind.wrap .i64 ((IntKind.wrap .i64 ((IntKind.wrap .i64 ((IntKind.wrap .i64 ((IntKind.wrap .i64 ((IntKind.wrap .i64 ((IntKind.wrap .i64 ((IntKind.wrap .i64 ((IntKind.wrap .i64 ((IntKind.wrap .i64 ((IntKind.wrap .i64 (s1.1 + 1)) + 1)) + 1)) + 1)) + 1)) + 1)) + 1)) + 1)) + 1)) + 1)) + 1))).1) + 1))), Period := IntKind.wrap .i64 ((IntKind.wrap .i64 (((za ((((s1.2.getD i1 default).Aid).Light).Group) (IntKind.wrap .i64 ((IntKind.wrap .i64 ((IntKind.wrap .i64 ((IntKind.wrap .i64 ((IntKind.wrap .i64 ((IntKind.wrap .i64 ((IntKind.wrap .i64 ((IntKind.wrap .i64 ((IntKind.wrap .i64 ((IntKind.wrap .i64 ((IntKind.wrap .i64 (s1.1 + 1)) + 1)) + 1)) + 1)) + 1)) + 1)) + 1)) + 1)) + 1)) + 1)) + 1))).1) + 1)) + 1) : Character }, Sectors := (zk (((s1.2.getD i1 default).Aid).Sectors) (IntKind.wrap .i64 ((IntKind.wrap .i64 ((IntKind.wrap .i64 (((za ((((s1.2.getD i1 default).Aid).Light).Group) (IntKind.wrap .i64 ((IntKind.wrap .i64 ((IntKind.wrap .i64 ((IntKind.wrap .i64 ((IntKind.wrap .i64 ((IntKind.wrap .i64 ((IntKind.wrap .i64 ((IntKind.wrap .i64 ((IntKind.wrap .i64 ((IntKind.wrap .i64 ((IntKind.wrap .i64 (s1.1 + 1)) + 1)) + 1)) + 1)) + 1)) + 1)) + 1)) + 1)) + 1)) + 1)) + 1))).1) + 1)) + 1)) + 1))).2, Intensity := ((zk (((s1.2.getD i1 default).Aid).Sectors) (IntKind.wrap .i64 ((IntKind.wrap .i64 ((IntKind.wrap .i64 (((za ((((s1.2.getD i1 default).Aid).Light).Group) (IntKind.wrap .i64 ((IntKind.wrap .i64 ((IntKind.wrap .i64 ((IntKind.wrap .i64 ((IntKind.wrap .i64 ((IntKind.wrap .i64 ((IntKind.wrap .i64 ((IntKind.wrap .i64 ((IntKind.wrap .i64 ((IntKind.wrap .i64 ((IntKind.wrap .i64 (s1.1 + 1)) + 1)) + 1)) + 1)) + 1)) + 1)) + 1)) + 1)) + 1)) + 1)) + 1))).1) + 1)) + 1)) + 1))).1) : Aid } : Correction }))
def zyb (a0 : (List Correction)) (a1 : Int) : Int × (List Correction) :=
 (match loopR (zyb_b1 a0 a1) (a0.length - 0) 0 (a1, a0) with | .error e => e | .ok s1 => (s1.1, s1.2))
namespace N29
theorem DD : DOk Tryz.prog (Go.Ab.DD [(20, dM [true, false] D_za), (75, dP D_zf), (76, dM [true, false] D_zk)]) := DD_cons D_za_ok.e <| DD_cons D_zf_ok.e <| DD_cons D_zk_ok.e <| DD_nil _
theorem dn : type_of% (And.intro @D_za.eq_1 <| And.intro @D_zf.eq_1 <| And.intro @D_zk.eq_1 <| And.intro @za_sub <| @markSectorS_sub) := And.intro @D_za.eq_1 <| And.intro @D_zf.eq_1 <| And.intro @D_zk.eq_1 <| And.intro @za_sub <| @markSectorS_sub
theorem ol : type_of% (And.intro @za_len <| @markSectorS_len) := And.intro @za_len <| @markSectorS_len
theorem gr {p : Prop} (h : p := by (grind [za_len, markSectorS_le]); first | done | fail) : p := h
theorem o1 {p : Prop} (h : p := by (first | (exact mrg) | (first | exact markInt64S_le _ _ (by exact mrg) | exact markSectorS_le _ _ (by exact mrg) | exact markInt64S_le _ _ (wrap_le _) | exact markSectorS_le _ _ (wrap_le _))); first | done | fail) : p := h
theorem o2 {p : Prop} (h : p := by (first | (and_intros <;> first | rfl | decide | (rw [IntKind.wrap_i64]; omega) | (simp only [List.length_set]; (first | done | fail)) | (intro j hj; by_cases hji : j = i1; (focus (subst hji; simp only [set_same hj, Nat.beq_refl, beq_self_eq_true, cond_true, ol]; first | (first | done | fail) | rfl | (and_intros <;> rfl))); (simp only [set_other hji, beqF hji, cond_false]; first | (first | done | fail) | rfl | (and_intros <;> rfl))))); first | done | fail) : p := h
set_option maxHeartbeats 4000000 in
set_option maxRecDepth 20000 in
theorem den (a0 : (List Correction)) (a1 : Int) (hp0 : a1 ≤ 9223372036854775807) : DenD Tryz.prog 29 [ownL 119 17 eCorrectionO a0, .int .i64 a1] (.int .i64 ((zyb a0 a1).1)) [(ownL 119 17 eCorrectionO ((zyb a0 a1).2)), .any] := by
 generalize hR : zyb a0 a1 = r
 unfold zyb at hR
 refine den_introD (gb := [true, false]) G_ok Tryz.func29 (by kernel_rfl) rfl Tryz.ntmps29 (by rw [Tryz.results29]) (by simp) ?_
 intro c hdp hL hc hk
 obtain ⟨hL0, hL1, _⟩ := hL
 have hw0 : a0.length < 9223372036854775808 := Nat.lt_succ_of_le (lens_ownL hL0).1
 have hw1 : ∀ v ∈ a0, bwCorrection v := fun v hv => Correction_lensO v ((lens_ownL hL0).2 v hv)
 clear hL0 hL1
 simp only [adEL, adE, adRL, adR, ownL, encL, sv, List.nil_append, List.append_nil, List.cons_append, List.length_cons, List.length_nil, pars, Nat.zero_add, Nat.reduceAdd] at hk ⊢
 iterate 2 refine rS ?_
 refine AWP.block ?_
 generalize hz1 : loopR (zyb_b1 a0 a1) (a0.length - 0) 0 (a1, a0) = z1 at hR
 refine AWP.range (zyb_b1 a0 a1) (fun i1 s1 => ⟨[(0, .ref 0 17 0 s1.2.length), (1, .int .i64 s1.1), (5, .int .i64 (i1 : Int))], [.arr 119 17 s1.2.length (fun j => eCorrectionO (s1.2.getD j default))]⟩) (fun i1 s1 => s1.2.length = a0.length ∧ s1.1 ≤ 9223372036854775807) (a0.length) 0 (a1, a0) [0] hz1 ot wt sm ?_
 clear hz1
 intro i1 s1 hi1 hW1 hz1
 refine rS ?_
 refine AWP.cond rfl (fun hb => ?_) (fun hb => ?_)
 ·have hlt1 : i1 < a0.length := ot
  rw [loopR_lt hlt1] at hz1; simp only [zyb_b1] at hz1
  iterate 2 refine rS ?_
  refine AWP.keepT [0, 1, 5] ?_; simp only [List.map, putL, dropL, Nat.beq_refl, cond_true, ea, absV, absVL, cput, gv, sv, dn, reduceCtorEq, reduceIte, Nat.reduceBEq, Nat.reduceAdd, Nat.reduceEqDiff, Nat.reduceLT, Nat.reduceLeDiff, Nat.reduceMul, Nat.reduceSub, BEq.rfl, beq_self_eq_true, Int.reduceToNat]
  iterate 5 refine rS ?_
  refine AWP.keepT [0, 1, 5] ?_; simp only [List.map, putL, dropL, Nat.beq_refl, cond_true, ea, absV, absVL, cput, gv, sv, dn, reduceCtorEq, reduceIte, Nat.reduceBEq, Nat.reduceAdd, Nat.reduceEqDiff, Nat.reduceLT, Nat.reduceLeDiff, Nat.reduceMul, Nat.reduceSub, BEq.rfl, beq_self_eq_true, Int.reduceToNat]
  iterate 5 refine rS ?_
  refine AWP.keepT [0, 1, 5] ?_; simp only [List.map, putL, dropL, Nat.beq_refl, cond_true, ea, absV, absVL, cput, gv, sv, dn, reduceCtorEq, reduceIte, Nat.reduceBEq, Nat.reduceAdd, Nat.reduceEqDiff, Nat.reduceLT, Nat.reduceLeDiff, Nat.reduceMul, Nat.reduceSub, BEq.rfl, beq_self_eq_true, Int.reduceToNat]
  iterate 5 refine rS ?_
  refine AWP.keepT [0, 1, 5] ?_; simp only [List.map, putL, dropL, Nat.beq_refl, cond_true, ea, absV, absVL, cput, gv, sv, dn, reduceCtorEq, reduceIte, Nat.reduceBEq, Nat.reduceAdd, Nat.reduceEqDiff, Nat.reduceLT, Nat.reduceLeDiff, Nat.reduceMul, Nat.reduceSub, BEq.rfl, beq_self_eq_true, Int.reduceToNat]
  iterate 5 refine rS ?_
  refine AWP.keepT [0, 1, 5] ?_; simp only [List.map, putL, dropL, Nat.beq_refl, cond_true, ea, absV, absVL, cput, gv, sv, dn, reduceCtorEq, reduceIte, Nat.reduceBEq, Nat.reduceAdd, Nat.reduceEqDiff, Nat.reduceLT, Nat.reduceLeDiff, Nat.reduceMul, Nat.reduceSub, BEq.rfl, beq_self_eq_true, Int.reduceToNat]
  refine AWP.seq ?_
  refine AWP.openE rb 0 0 i1 11 rfl rfl ot (by simp only [putL, dropL, Nat.beq_refl, cond_true, ea, absV, absVL, cput, gv, sv, dn, reduceCtorEq, reduceIte, Nat.reduceBEq, Nat.reduceAdd, Nat.reduceEqDiff, Nat.reduceLT, Nat.reduceLeDiff, Nat.reduceMul, Nat.reduceSub, BEq.rfl, beq_self_eq_true, Int.reduceToNat]; rfl) ?_; simp only [putL, dropL, Nat.beq_refl, cond_true, ea, absV, absVL, cput, gv, sv, dn, reduceCtorEq, reduceIte, Nat.reduceBEq, Nat.reduceAdd, Nat.reduceEqDiff, Nat.reduceLT, Nat.reduceLeDiff, Nat.reduceMul, Nat.reduceSub, BEq.rfl, beq_self_eq_true, Int.reduceToNat]
  refine rS ?_
  simp only [ol]
  refine AWP.closeE 0 0 i1 11 1 rfl rfl rfl (by decide) ot (by simp only [putL, dropL, Nat.beq_refl, cond_true, ea, absV, absVL, cput, gv, sv, dn, reduceCtorEq, reduceIte, Nat.reduceBEq, Nat.reduceAdd, Nat.reduceEqDiff, Nat.reduceLT, Nat.reduceLeDiff, Nat.reduceMul, Nat.reduceSub, BEq.rfl, beq_self_eq_true, Int.reduceToNat]; rfl) (fun k hk => by rfl) ?_; simp only [putL, dropL, Nat.beq_refl, cond_true, ea, absV, absVL, cput, gv, sv, dn, reduceCtorEq, reduceIte, Nat.reduceBEq, Nat.reduceAdd, Nat.reduceEqDiff, Nat.reduceLT, Nat.reduceLeDiff, Nat.reduceMul, Nat.reduceSub, BEq.rfl, beq_self_eq_true, Int.reduceToNat]
  iterate 4 refine rS ?_
  refine AWP.keepT [0, 1, 5] ?_; simp only [List.map, putL, dropL, Nat.beq_refl, cond_true, ea, absV, absVL, cput, gv, sv, dn, reduceCtorEq, reduceIte, Nat.reduceBEq, Nat.reduceAdd, Nat.reduceEqDiff, Nat.reduceLT, Nat.reduceLeDiff, Nat.reduceMul, Nat.reduceSub, BEq.rfl, beq_self_eq_true, Int.reduceToNat]
  iterate 2 refine rS ?_
  refine AWP.seq ?_
  refine AWP.openE rb 0 0 i1 15 rfl rfl ot (by simp only [putL, dropL, Nat.beq_refl, cond_true, ea, absV, absVL, cput, gv, sv, dn, reduceCtorEq, reduceIte, Nat.reduceBEq, Nat.reduceAdd, Nat.reduceEqDiff, Nat.reduceLT, Nat.reduceLeDiff, Nat.reduceMul, Nat.reduceSub, BEq.rfl, beq_self_eq_true, Int.reduceToNat]; rfl) ?_; simp only [putL, dropL, Nat.beq_refl, cond_true, ea, absV, absVL, cput, gv, sv, dn, reduceCtorEq, reduceIte, Nat.reduceBEq, Nat.reduceAdd, Nat.reduceEqDiff, Nat.reduceLT, Nat.reduceLeDiff, Nat.reduceMul, Nat.reduceSub, BEq.rfl, beq_self_eq_true, Int.reduceToNat]
  refine rS ?_
  simp only [ol]
  refine AWP.closeE 0 0 i1 15 2 rfl rfl rfl (by decide) ot (by simp only [putL, dropL, Nat.beq_refl, cond_true, ea, absV, absVL, cput, gv, sv, dn, reduceCtorEq, reduceIte, Nat.reduceBEq, Nat.reduceAdd, Nat.reduceEqDiff, Nat.reduceLT, Nat.reduceLeDiff, Nat.reduceMul, Nat.reduceSub, BEq.rfl, beq_self_eq_true, Int.reduceToNat]; rfl) (fun k hk => by rfl) ?_; simp only [putL, dropL, Nat.beq_refl, cond_true, ea, absV, absVL, cput, gv, sv, dn, reduceCtorEq, reduceIte, Nat.reduceBEq, Nat.reduceAdd, Nat.reduceEqDiff, Nat.reduceLT, Nat.reduceLeDiff, Nat.reduceMul, Nat.reduceSub, BEq.rfl, beq_self_eq_true, Int.reduceToNat]
  iterate 3 refine rS ?_
  exact ⟨_, [0], hlt1, by (exact mrg), hz1, sm⟩
 ·obtain rfl : i1 = a0.length := ot
  rw [loopR_ge (Nat.le_refl _)] at hz1; subst hz1; dsimp only at hR
  refine AWP.exit ?_; refine exitTo_here ?_
  refine AWP.keepT [1] ?_; simp only [List.map, putL, dropL, Nat.beq_refl, cond_true, ea, absV, absVL, cput, gv, sv, dn, reduceCtorEq, reduceIte, Nat.reduceBEq, Nat.reduceAdd, Nat.reduceEqDiff, Nat.reduceLT, Nat.reduceLeDiff, Nat.reduceMul, Nat.reduceSub, BEq.rfl, beq_self_eq_true, Int.reduceToNat]
  refine rS ?_
  refine AWP.ret ?_
  subst hR
  exact es
end N29
end Go.Ab

namespace Go.Ab
open Go Go.Proofs
def zgd_b1 (a0 : (List Correction)) (a1 : Int) (i1 : Nat) (s1 : Int) : Except (Int) (Int) :=
 (bif (((a0.getD i1 default).Kind) != s1) then .error (-1) else (bif ((((a0.getD i1 default).Aid).Number) != (IntKind.wrap .i64 (s1 + 1))) then .error (-1) else (bif ((((a0.getD i1 default).Aid).Name) != (zf (IntKind.wrap .i64 ((IntKind.wrap .i64 (s1 + 1)) + 1)))) then .error (-1) else (bif (((((a0.getD i1 default).Aid).At).X) != (IntKind.wrap .i64 ((IntKind.wrap .i64 ((IntKind.wrap .i64 (s1 + 1)) + 1)) + 1))) then .error (-1) else (bif (((((a0.getD i1 default).Aid).At).Y) != (IntKind.wrap .i64 ((IntKind.wrap .i64 ((IntKind.wrap .i64 ((IntKind.wrap .i64 (s1 + 1)) + 1)) + 1)) + 1))) then .error (-1) else (bif ((((a0.getD i1 default).Aid).Height) != (IntKind.wrap .i64 ((IntKind.wrap .i64 ((IntKind.wrap .i64 ((IntKind.wrap .i64 ((IntKind.wrap .i64 (s1 + 1)) + 1)) + 1)) + 1)) + 1))) then .error (-1) else (bif (((((a0.getD i1 default).Aid).Mark).Kind) != (IntKind.wrap .i64 ((IntKind.wrap .i64 ((IntKind.wrap .i64 ((IntKind.wrap .i64 ((IntKind.wrap .i64 ((IntKind.wrap .i64 (s1 + 1)) + 1)) + 1)) + 1)) + 1)) + 1))) then .error (-1) else (bif (((((a0.getD i1 default).Aid).Mark).Colors) != (zf (IntKind.wrap .i64 ((IntKind.wrap .i64 ((IntKind.wrap .i64 ((IntKind.wrap .i64 ((IntKind.wrap .i64 ((IntKind.wrap .i64 ((IntKind.wrap .i64 (s1 + 1)) + 1)) + 1)) + 1)) + 1)) + 1)) + 1)))) then .error (-1) else (bif (((((a0.getD i1 default).Aid).Mark).Shape) != (zf (IntKind.wrap .i64 ((IntKind.wrap .i64 ((IntKind.wrap .i64 ((IntKind.wrap .i64 ((IntKind.wrap .i64 ((IntKind.wrap .i64 ((IntKind.wrap .i64 ((IntKind.wrap .i64 (s1 + 1)) + 1)) + 1)) + 1)) + 1)) + 1)) + 1)) + 1)))) then .error (-1) else (bif (((((a0.getD i1 default).Aid).Mark).Topmark) != (zf (IntKind.wrap .i64 ((IntKind.wrap .i64 ((IntKind.wrap .i64 ((IntKind.wrap .i64 ((IntKind.wrap .i64 ((IntKind.wrap .i64 ((IntKind.wrap .i64 ((IntKind.wrap .i64 ((IntKind.wrap .i64 (s1 + 1)) + 1)) + 1)) + 1)) + 1)) + 1)) + 1)) + 1)) + 1)))) then .error (-1) else (bif (((((a0.getD i1 default).Aid).Light).Kind) != (IntKind.wrap .i64 ((IntKind.wrap .i64 ((IntKind.wrap .i64 ((IntKind.wrap .i64 ((IntKind.wrap .i64 ((IntKind.wrap .i64 ((IntKind.wrap .i64 ((IntKind.wrap .i64 ((IntKind.wrap .i64 ((IntKind.wrap .i64 (s1 + 1)) + 1)) + 1)) + 1)) + 1)) + 1)) + 1)) + 1)) + 1)) + 1))) then .error (-1) else (bif decide ((zm ((((a0.getD i1 default).Aid).Light).Group) (IntKind.wrap .i64 ((IntKind.wrap .i64 ((IntKind.wrap .i64 ((IntKind.wrap .i64 ((IntKind.wrap .i64 ((IntKind.wrap .i64 ((IntKind.wrap .i64 ((IntKind.wrap .i64 ((IntKind.wrap .i64 ((IntKind.wrap .i64 ((IntKind.wrap .i64 (s1 + 1)) + 1)) + 1)) + 1)) + 1)) + 1)) + 1)) + 1)) + 1)) + 1)) + 1))) < 0) then .error (-1) else (bif (((((a0.getD i1 default).Aid).Light).Letter) != (zf (zm ((((a0.getD i1 default).Aid).Light).Group) (IntKind.wrap .i64 ((IntKind.wrap .i64 ((IntKind.wrap .i64 ((IntKind.wrap .i64 ((IntKind.wrap .i64 ((IntKind.wrap .i64 ((IntKind.wrap .i64 ((IntKind.wrap .i64 ((IntKind.wrap .i64 ((IntKind.wrap .i64 ((IntKind.wrap .i64 (s1 + 1)) + 1)) + 1)) + 1)) + 1)) + 1)) + 1)) + 1)) + 1)) + 1)) + 1))))) then .error (-1) else (bif (((((a0.getD i1 default).Aid).Light).Colors) != (zf (IntKind.wrap .i64 ((zm ((((a0.getD i1 default).Aid).Light).Group) (IntKind.wrap .i64 ((IntKind.wrap .i64 ((IntKind.wrap .i64 ((IntKind.wrap .i64 ((IntKind.wrap .i64 ((IntKind.wrap .i64 ((IntKind.wrap .i64 ((IntKind.wrap .i64 ((IntKind.wrap .i64 ((IntKind.wrap .i64 ((IntKind.wrap .i64 (s1 + 1)) + 1)) + 1)) + 1)) + 1)) + 1)) + 1)) + 1)) + 1)) + 1)) + 1))) + 1)))) then .error (-1) else (bif (((((a0.getD i1 default).Aid).Light).Period) != (IntKind.wrap .i64 ((IntKind.wrap .i64 ((zm ((((a0.getD i1 default).Aid).Light).Group) (IntKind.wrap .i64 ((IntKind.wrap .i64 ((IntKind.wrap .i64 ((IntKind.wrap .i64 ((IntKind.wrap .i64 ((IntKind.wrap .i64 ((IntKind.wrap .i64 ((IntKind.wrap .i64 ((IntKind.wrap .i64 ((IntKind.wrap .i64 ((IntKind.wrap .i64 (s1 + 1)) + 1)) + 1)) + 1)) + 1)) + 1)) + 1)) + 1)) + 1)) + 1)) + 1))) + 1)) + 1))) then .error (-1) else (bif decide ((zib (((a0.getD i1 default).Aid).Sectors) (IntKind.wrap .i64 ((IntKind.wrap .i64 ((IntKind.wrap .i64 ((zm ((((a0.getD i1 default).Aid).Light).Group) (IntKind.wrap .i64 ((IntKind.wrap .i64 ((IntKind.wrap .i64 ((IntKind.wrap .i64 ((IntKind.wrap .i64 ((IntKind.wrap .i64 ((IntKind.wrap .i64 ((IntKind.wrap .i64 ((IntKind.wrap .i64 ((IntKind.wrap .i64 ((IntKind.wrap .i64 (s1 + 1)) + 1)) + 1)) + 1)) + 1)) + 1)) + 1)) + 1)) + 1)) + 1)) + 1))) + 1)) + 1)) + 1))) < 0) then .error (-1) else (bif ((((a0.getD i1 default).Aid).Intensity) != (zib (((a0.getD i1 default).Aid).Sectors) (IntKind.wrap .i64 ((IntKind.wrap .i64 ((IntKind.wrap .i64 ((zm ((((a0.getD i1 default).Aid).Light).Group) (IntKind.wrap .i64 ((IntKind.wrap .i64 ((IntKind.wrap .i64 ((IntKind.wrap .i64 ((IntKind.wrap .i64 ((IntKind.wrap .i64 ((IntKind.wrap .i64 ((IntKind.wrap .i64 ((IntKind.wrap .i64 ((IntKind.wrap .i64 ((IntKind.wrap .i64 (s1 + 1)) + 1)) + 1)) + 1)) + 1)) + 1)) + 1)) + 1)) + 1)) + 1)) + 1))) + 1)) + 1)) + 1)))) then .error (-1) else .ok (IntKind.wrap .i64 ((zib (((a0.getD i1 default).Aid).Sectors) (IntKind.wrap .i64 ((IntKind.wrap .i64 ((IntKind.wrap .i64 ((zm ((((a0.getD i1 default).Aid).Light).Group) (IntKind.wrap .i64 ((IntKind.wrap .i64 ((IntKind.wrap .i64 ((IntKind.wrap .i64 ((IntKind.wrap .i64 ((IntKind.wrap .i64 ((IntKind.wrap .i64 ((IntKind.wrap .i64 ((IntKind.wrap .i64 ((IntKind.wrap .i64 ((IntKind.wrap .i64 (s1 + 1)) + 1)) + 1)) + 1)) + 1)) + 1)) + 1)) + 1)) + 1)) + 1)) + 1))) + 1)) + 1)) + 1))) + 1)))))))))))))))))))
def zgd (a0 : (List Correction)) (a1 : Int) : Int :=
 (match loopR (zgd_b1 a0 a1) (a0.length - 0) 0 a1 with | .error e => e | .ok s1 => s1)
namespace N30
theorem DD : DOk Tryz.prog (Go.Ab.DD [(21, dP D_zm), (75, dP D_zf), (83, dP D_zib)]) := DD_cons D_zm_ok.e <| DD_cons D_zf_ok.e <| DD_cons D_zib_ok.e <| DD_nil _
theorem dn : type_of% (And.intro @D_zm.eq_1 <| And.intro @D_zf.eq_1 <| And.intro @D_zib.eq_1 <| And.intro @za_sub <| @markSectorS_sub) := And.intro @D_zm.eq_1 <| And.intro @D_zf.eq_1 <| And.intro @D_zib.eq_1 <| And.intro @za_sub <| @markSectorS_sub
theorem ol : type_of% (And.intro @za_len <| @markSectorS_len) := And.intro @za_len <| @markSectorS_len
theorem gr {p : Prop} (h : p := by (grind [za_len, markSectorS_le]); first | done | fail) : p := h
theorem o1 {p : Prop} (h : p := by (first | (exact mrg) | (exact heldInt64S_le _ _ (by exact mrg)) | (exact heldSectorS_le _ _ (by exact mrg))); first | done | fail) : p := h
set_option maxHeartbeats 4000000 in
set_option maxRecDepth 20000 in
theorem den (a0 : (List Correction)) (a1 : Int) (hp0 : a1 ≤ 9223372036854775807) : Den Tryz.prog 30 [encL 17 eCorrection a0, .int .i64 a1] (.int .i64 (zgd a0 a1)) := by
 generalize hR : zgd a0 a1 = r
 unfold zgd at hR
 refine di Tryz.func30 Tryz.ntmps30 Tryz.results30 ?_
 intro c hL hc hk
 obtain ⟨hL0, hL1, _⟩ := hL
 have hw0 : a0.length < 9223372036854775808 := Nat.lt_succ_of_le (lens_encL hL0).1
 have hw1 : ∀ v ∈ a0, bwCorrection v := fun v hv => Correction_lens v ((lens_encL hL0).2 v hv)
 clear hL0 hL1
 simp only [pars, Nat.zero_add]
 iterate 2 refine rS ?_
 refine AWP.block ?_
 generalize hz1 : loopR (zgd_b1 a0 a1) (a0.length - 0) 0 a1 = z1 at hR
 refine AWP.range (zgd_b1 a0 a1) (fun i1 s1 => ⟨[(0, encL 17 eCorrection a0), (1, .int .i64 s1), (5, .int .i64 (i1 : Int))], []⟩) (fun i1 s1 => s1 ≤ 9223372036854775807) (a0.length) 0 a1 [] hz1 ot wt sm ?_
 clear hz1
 intro i1 s1 hi1 hW1 hz1
 refine rS ?_
 refine AWP.cond rfl (fun hb => ?_) (fun hb => ?_)
 ·have hlt1 : i1 < a0.length := ot
  rw [loopR_lt hlt1] at hz1; simp only [zgd_b1] at hz1
  refine rS ?_
  refine AWP.cond rfl (fun hb => ?_) (fun hb => ?_)
  ·simp only [hb, cond_true] at hz1
   refine rS ?_
   refine AWP.ret ?_
   subst hz1
   dsimp only at hR
   subst hR
   exact es
  ·simp only [hb, cond_false] at hz1
   iterate 2 refine rS ?_
   refine AWP.cond rfl (fun hb => ?_) (fun hb => ?_)
   ·simp only [hb, cond_true] at hz1
    refine rS ?_
    refine AWP.ret ?_
    subst hz1
    dsimp only at hR
    subst hR
    exact es
   ·simp only [hb, cond_false] at hz1
    refine rS ?_
    refine rD 9 ?_
    refine AWP.cond rfl (fun hb => ?_) (fun hb => ?_)
    ·simp only [hb, cond_true] at hz1
     refine rS ?_
     refine AWP.ret ?_
     subst hz1
     dsimp only at hR
     subst hR
     exact es
    ·simp only [hb, cond_false] at hz1
     iterate 2 refine rS ?_
     refine AWP.cond rfl (fun hb => ?_) (fun hb => ?_)
     ·simp only [hb, cond_true] at hz1
      refine rS ?_
      refine AWP.ret ?_
      subst hz1
      dsimp only at hR
      subst hR
      exact es
     ·simp only [hb, cond_false] at hz1
      iterate 2 refine rS ?_
      refine AWP.cond rfl (fun hb => ?_) (fun hb => ?_)
      ·simp only [hb, cond_true] at hz1
       refine rS ?_
       refine AWP.ret ?_
       subst hz1
       dsimp only at hR
       subst hR
       exact es
      ·simp only [hb, cond_false] at hz1
       iterate 2 refine rS ?_
       refine AWP.cond rfl (fun hb => ?_) (fun hb => ?_)
       ·simp only [hb, cond_true] at hz1
        refine rS ?_
        refine AWP.ret ?_
        subst hz1
        dsimp only at hR
        subst hR
        exact es
       ·simp only [hb, cond_false] at hz1
        iterate 2 refine rS ?_
        refine AWP.cond rfl (fun hb => ?_) (fun hb => ?_)
        ·simp only [hb, cond_true] at hz1
         refine rS ?_
         refine AWP.ret ?_
         subst hz1
         dsimp only at hR
         subst hR
         exact es
        ·simp only [hb, cond_false] at hz1
         refine rS ?_
         refine rD 10 ?_
         refine AWP.cond rfl (fun hb => ?_) (fun hb => ?_)
         ·simp only [hb, cond_true] at hz1
          refine rS ?_
          refine AWP.ret ?_
          subst hz1
          dsimp only at hR
          subst hR
          exact es
         ·simp only [hb, cond_false] at hz1
          refine rS ?_
          refine rD 10 ?_
          refine AWP.cond rfl (fun hb => ?_) (fun hb => ?_)
          ·simp only [hb, cond_true] at hz1
           refine rS ?_
           refine AWP.ret ?_
           subst hz1
           dsimp only at hR
           subst hR
           exact es
          ·simp only [hb, cond_false] at hz1
           refine rS ?_
           refine rD 10 ?_
           refine AWP.cond rfl (fun hb => ?_) (fun hb => ?_)
           ·simp only [hb, cond_true] at hz1
            refine rS ?_
            refine AWP.ret ?_
            subst hz1
            dsimp only at hR
            subst hR
            exact es
           ·simp only [hb, cond_false] at hz1
            iterate 2 refine rS ?_
            refine AWP.cond rfl (fun hb => ?_) (fun hb => ?_)
            ·simp only [hb, cond_true] at hz1
             refine rS ?_
             refine AWP.ret ?_
             subst hz1
             dsimp only at hR
             subst hR
             exact es
            ·simp only [hb, cond_false] at hz1
             iterate 3 refine rS ?_
             refine AWP.cond rfl (fun hb => ?_) (fun hb => ?_)
             ·simp only [hb, cond_true] at hz1
              refine rS ?_
              refine AWP.ret ?_
              subst hz1
              dsimp only at hR
              subst hR
              exact es
             ·simp only [hb, cond_false] at hz1
              refine rD 10 ?_
              refine AWP.cond rfl (fun hb => ?_) (fun hb => ?_)
              ·simp only [hb, cond_true] at hz1
               refine rS ?_
               refine AWP.ret ?_
               subst hz1
               dsimp only at hR
               subst hR
               exact es
              ·simp only [hb, cond_false] at hz1
               refine rS ?_
               refine rD 10 ?_
               refine AWP.cond rfl (fun hb => ?_) (fun hb => ?_)
               ·simp only [hb, cond_true] at hz1
                refine rS ?_
                refine AWP.ret ?_
                subst hz1
                dsimp only at hR
                subst hR
                exact es
               ·simp only [hb, cond_false] at hz1
                iterate 2 refine rS ?_
                refine AWP.cond rfl (fun hb => ?_) (fun hb => ?_)
                ·simp only [hb, cond_true] at hz1
                 refine rS ?_
                 refine AWP.ret ?_
                 subst hz1
                 dsimp only at hR
                 subst hR
                 exact es
                ·simp only [hb, cond_false] at hz1
                 iterate 3 refine rS ?_
                 refine AWP.cond rfl (fun hb => ?_) (fun hb => ?_)
                 ·simp only [hb, cond_true] at hz1
                  refine rS ?_
                  refine AWP.ret ?_
                  subst hz1
                  dsimp only at hR
                  subst hR
                  exact es
                 ·simp only [hb, cond_false] at hz1
                  refine rS ?_
                  refine AWP.cond rfl (fun hb => ?_) (fun hb => ?_)
                  ·simp only [hb, cond_true] at hz1
                   refine rS ?_
                   refine AWP.ret ?_
                   subst hz1
                   dsimp only at hR
                   subst hR
                   exact es
                  ·simp only [hb, cond_false] at hz1
                   iterate 2 refine rS ?_
                   exact ⟨_, [], hlt1, by (exact mrg), hz1, sm⟩
 ·obtain rfl : i1 = a0.length := ot
  rw [loopR_ge (Nat.le_refl _)] at hz1; subst hz1; dsimp only at hR
  refine AWP.exit ?_; refine exitTo_here ?_
  refine rS ?_
  refine AWP.ret ?_
  subst hR
  exact es
end N30
def D_zgd : DF
 | [x0, x1] => some (.int .i64 (zgd (rdL dCorrection x0) (rdI x1)), false, [wL 17 eCorrection dCorrection x0, wI .i64 x1, (rdI x1) ≤ 9223372036854775807])
 | _ => none
theorem D_zgd_ok : OkD Tryz.prog 30 D_zgd := by unfold D_zgd; exact dk N30.den
end Go.Ab
