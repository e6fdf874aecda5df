/- A part of a proof: walks of functions and lemmas of our own. No conditions. -/
import Derived.Test.YtaneiddiakjgdaaGreatDoorVAl
import Derived.Test.YtaneiddiakjgdaaGreatDoorVAr
import Derived.Test.YtaneiddiakjgdaaGreatDoorVAz
import Derived.Test.YtaneiddiakjgdaaGreatDoorVAv
import Derived.Test.YtaneiddiakjgdaaGreatDoorVAw
import Derived.Test.YtaneiddiakjgdaaGreatDoorVAi
import Derived.Test.YtaneiddiakjgdaaGreatDoorVAs
import Derived.Test.YtaneiddiakjgdaaGreatDoorVAk
import Derived.Test.YtaneiddiakjgdaaGreatDoorVAo
import Derived.Test.YtaneiddiakjgdaaGreatDoorVAp
set_option linter.unusedSectionVars false
set_option linter.unusedVariables false
set_option linter.unusedSimpArgs false
set_option maxHeartbeats 1000000
namespace Go.Ab
open Go Go.Proofs
def zq_b1 (a0 : (List Aid)) (i1 : Nat) (s1 : Unit) : Except (Bool) (Unit) :=
 (bif ((!(zob (a0.getD i1 default))) || (decide (0 < (i1 : Int)) && decide (((a0.getD i1 default).Number) ≤ ((a0.getD ((IntKind.wrap .i64 ((i1 : Int) - 1)).toNat) default).Number)))) then .error false else .ok ())
def zq (a0 : (List Aid)) : Bool :=
 (match loopR (zq_b1 a0) (a0.length - 0) 0 () with | .error e => e | .ok s1 => (zkb (a0.length : Int) 24))
namespace N79
theorem DD : DOk Tryz.prog (Go.Ab.DD [(112, dP D_zkb), (93, dP D_zob)]) := DD_cons D_zkb_ok.e <| DD_cons D_zob_ok.e <| DD_nil _
theorem dn : type_of% (And.intro @D_zkb.eq_1 <| @D_zob.eq_1) := by and_intros <;> intros <;> rfl
theorem den (a0 : (List Aid)) (hb0 : a0.length < 1099511627776) (hb1 : ∀ v ∈ a0, bdAid v) : Den Tryz.prog 79 [encL 16 eAid a0] (.bool (zq a0)) := by
 generalize hR : zq a0 = r
 unfold zq at hR
 refine di Tryz.func79 Tryz.ntmps79 Tryz.results79 ?_
 intro c hL hc hk
 obtain ⟨hL0, _⟩ := hL
 have hw0 : a0.length < 9223372036854775808 := Nat.lt_succ_of_le (lens_encL hL0).1
 have hw1 : ∀ v ∈ a0, bwAid v := fun v hv => Aid_lens v ((lens_encL hL0).2 v hv)
 clear hL0
 simp only [pars, Nat.zero_add]
 iterate 2 refine rS ?_
 refine AWP.block ?_
 generalize hz1 : loopR (zq_b1 a0) (a0.length - 0) 0 () = z1 at hR
 refine AWP.range (zq_b1 a0) (fun i1 s1 => ⟨[(0, encL 16 eAid a0), (5, encL 16 eAid a0), (6, .int .i64 (a0.length : Int)), (7, .int .i64 (i1 : Int))], []⟩) (fun i1 s1 => True) (a0.length) 0 () [] hz1 ot wt sm ?_
 clear hz1
 intro i1 s1 hi1 hW1 hz1
 refine rS ?_
 refine AWP.seq ?_
 refine AWP.cond rfl (fun hb => ?_) (fun hb => ?_)
 ·have hlt1 : i1 < a0.length := ot
  rw [loopR_lt hlt1] at hz1; simp only [zq_b1] at hz1
  refine rS ?_
  refine rD 18 ?_
  refine AWP.cond rfl (fun hb => ?_) (fun hb => ?_)
  ·simp only [hb, cond_true] at hz1
   refine rS ?_
   refine AWP.ret ?_
   subst hz1
   dsimp only at hR
   subst hR
   exact es
  ·simp only [hb, cond_false] at hz1
   refine rS ?_
   exact ⟨_, [], hlt1, wt, hz1, sm⟩
 ·obtain rfl : i1 = a0.length := ot
  rw [loopR_ge (Nat.le_refl _)] at hz1; subst hz1; dsimp only at hR
  refine AWP.exit ?_; refine exitTo_here ?_
  refine rS ?_
  refine AWP.ret ?_
  subst hR
  exact es
end N79
def D_zq : DF
 | [x0] => some (.bool (zq (rdL dAid x0)), false, [wL 16 eAid dAid x0, (rdL dAid x0).length < 1099511627776, ∀ v ∈ (rdL dAid x0), bdAid v])
 | _ => none
theorem D_zq_ok : OkD Tryz.prog 79 D_zq := by unfold D_zq; exact dk N79.den
end Go.Ab

namespace Go.Ab
open Go Go.Proofs
def zeb (a0 : Aid) : Bool :=
 (bif (((((!(ze a0.Number 1 9999)) || (!(ztd a0.Name))) || (!(zdg a0.At))) || (!(ze a0.Height 0 3000))) || (!(zlf a0.Mark))) then false else (bif (zbf a0.Light) then (((a0.Sectors.length : Int) == 0) && (a0.Intensity == 0)) else (bif (((!(zrg a0.Light)) || (!(ze a0.Intensity 1 100000000))) || (!(zec a0.Sectors))) then false else (bif ((a0.Sectors.length : Int) == 0) then ((a0.Light.Colors.length : Int) == 1) else ((zlc a0.Sectors) == a0.Light.Colors)))))
namespace N87
theorem DD : DOk Tryz.prog (Go.Ab.DD [(137, dP D_ze), (148, dP D_ztd), (149, dP D_zdg), (150, dP D_zlf), (151, dP D_zbf), (152, dP D_zrg), (153, dP D_zec), (154, dP D_zlc)]) := DD_cons D_ze_ok.e <| DD_cons D_ztd_ok.e <| DD_cons D_zdg_ok.e <| DD_cons D_zlf_ok.e <| DD_cons D_zbf_ok.e <| DD_cons D_zrg_ok.e <| DD_cons D_zec_ok.e <| DD_cons D_zlc_ok.e <| DD_nil _
theorem dn : type_of% (And.intro @D_ze.eq_1 <| And.intro @D_ztd.eq_1 <| And.intro @D_zdg.eq_1 <| And.intro @D_zlf.eq_1 <| And.intro @D_zbf.eq_1 <| And.intro @D_zrg.eq_1 <| And.intro @D_zec.eq_1 <| @D_zlc.eq_1) := by and_intros <;> intros <;> rfl
theorem ol : type_of% (@ze.eq_1) := @ze.eq_1
theorem den (a0 : Aid) (hb0 : bdAid a0) : Den Tryz.prog 87 [.ep (eAid a0)] (.bool (zeb a0)) := by
 generalize hR : zeb a0 = r
 unfold zeb at hR
 refine di Tryz.func87 Tryz.ntmps87 Tryz.results87 ?_
 intro c hL hc hk
 obtain ⟨hL0, _⟩ := hL
 have hw0 : bwAid a0 := Aid_lens a0 hL0
 clear hL0
 simp only [pars, Nat.zero_add]
 iterate 2 refine rS ?_
 refine AWP.cond rfl (fun hb => ?_) (fun hb => ?_)
 ·replace hR := ct hR
  refine rS ?_
  refine AWP.ret ?_
  subst hR
  exact es
 ·replace hR := cf hR
  refine rS ?_
  refine AWP.cond rfl (fun hb => ?_) (fun hb => ?_)
  ·replace hR := ct hR
   refine rS ?_
   refine AWP.ret ?_
   subst hR
   exact es
  ·replace hR := cf hR
   refine rS ?_
   refine AWP.cond rfl (fun hb => ?_) (fun hb => ?_)
   ·replace hR := ct hR
    refine rS ?_
    refine AWP.ret ?_
    subst hR
    exact es
   ·replace hR := cf hR
    refine rS ?_
    refine AWP.cond rfl (fun hb => ?_) (fun hb => ?_)
    ·replace hR := ct hR
     refine rS ?_
     refine AWP.ret ?_
     subst hR
     exact es
    ·replace hR := cf hR
     refine rD 11 ?_
     refine AWP.ret ?_
     subst hR
     exact es
end N87
def D_zeb : DF
 | [x0] => some (.bool (zeb (rdP dAid x0)), false, [wP eAid dAid x0, bdAid (rdP dAid x0)])
 | _ => none
theorem D_zeb_ok : OkD Tryz.prog 87 D_zeb := by unfold D_zeb; exact dk N87.den
end Go.Ab

namespace Go.Ab
open Go Go.Proofs
def zr_b1 (a0 : (List Aid)) (i1 : Nat) (s1 : Unit) : Except (Bool) (Unit) :=
 (bif ((!(zeb (a0.getD i1 default))) || (decide (0 < (i1 : Int)) && decide (((a0.getD i1 default).Number) ≤ ((a0.getD ((IntKind.wrap .i64 ((i1 : Int) - 1)).toNat) default).Number)))) then .error false else .ok ())
def zr (a0 : (List Aid)) : Bool :=
 (match loopR (zr_b1 a0) (a0.length - 0) 0 () with | .error e => e | .ok s1 => decide ((a0.length : Int) ≤ 24))
namespace N77
theorem DD : DOk Tryz.prog (Go.Ab.DD [(87, dP D_zeb)]) := DD_cons D_zeb_ok.e <| DD_nil _
theorem dn : type_of% (@D_zeb.eq_1) := by and_intros <;> intros <;> rfl
theorem den (a0 : (List Aid)) (hb0 : a0.length < 1099511627776) (hb1 : ∀ v ∈ a0, bdAid v) : Den Tryz.prog 77 [encL 16 eAid a0] (.bool (zr a0)) := by
 generalize hR : zr a0 = r
 unfold zr at hR
 refine di Tryz.func77 Tryz.ntmps77 Tryz.results77 ?_
 intro c hL hc hk
 obtain ⟨hL0, _⟩ := hL
 have hw0 : a0.length < 9223372036854775808 := Nat.lt_succ_of_le (lens_encL hL0).1
 have hw1 : ∀ v ∈ a0, bwAid v := fun v hv => Aid_lens v ((lens_encL hL0).2 v hv)
 clear hL0
 simp only [pars, Nat.zero_add]
 iterate 2 refine rS ?_
 refine AWP.block ?_
 generalize hz1 : loopR (zr_b1 a0) (a0.length - 0) 0 () = z1 at hR
 refine AWP.range (zr_b1 a0) (fun i1 s1 => ⟨[(0, encL 16 eAid a0), (3, .int .i64 (i1 : Int))], []⟩) (fun i1 s1 => True) (a0.length) 0 () [] hz1 ot wt sm ?_
 clear hz1
 intro i1 s1 hi1 hW1 hz1
 refine rS ?_
 refine AWP.cond rfl (fun hb => ?_) (fun hb => ?_)
 ·have hlt1 : i1 < a0.length := ot
  rw [loopR_lt hlt1] at hz1; simp only [zr_b1] at hz1
  refine rD 23 ?_
  refine AWP.cond rfl (fun hb => ?_) (fun hb => ?_)
  ·simp only [hb, cond_true] at hz1
   refine rS ?_
   refine AWP.ret ?_
   subst hz1
   dsimp only at hR
   subst hR
   exact es
  ·simp only [hb, cond_false] at hz1
   refine rS ?_
   exact ⟨_, [], hlt1, wt, hz1, sm⟩
 ·obtain rfl : i1 = a0.length := ot
  rw [loopR_ge (Nat.le_refl _)] at hz1; subst hz1; dsimp only at hR
  refine AWP.exit ?_; refine exitTo_here ?_
  refine rS ?_
  refine AWP.ret ?_
  subst hR
  exact es
end N77
def D_zr : DF
 | [x0] => some (.bool (zr (rdL dAid x0)), false, [wL 16 eAid dAid x0, (rdL dAid x0).length < 1099511627776, ∀ v ∈ (rdL dAid x0), bdAid v])
 | _ => none
theorem D_zr_ok : OkD Tryz.prog 77 D_zr := by unfold D_zr; exact dk N77.den
end Go.Ab

namespace Go.Ab
open Go Go.Proofs
theorem plain_not (c : Character) (h : zbf c = true) : zeg c = false := by
 unfold zbf at h
 simp only [Bool.and_eq_true, beq_iff_eq] at h
 obtain ⟨⟨⟨⟨h1, h2⟩, h3⟩, h4⟩, h5⟩ := h
 cases c
 simp only at h1 h2 h3 h4 h5
 rename_i k g l cs p
 have hg : g = [] := List.length_eq_zero_iff.1 (by omega)
 subst h1 hg h3 h4 h5
 decide
theorem unlit_eq (a : Aid) : zjg a = ((zbf a.Light && ((a.Sectors.length : Int) == 0)) && (a.Intensity == 0)) := by
 unfold zjg zme zbf
 rw [same_int64_dec]
 have : decide (a.Light.Group = []) = ((a.Light.Group.length : Int) == 0) := by
  cases a.Light.Group with
  | nil => rfl
  | cons x l => simp; omega
 rw [this]
theorem validAid_eq (a : Aid) (hl : a.Light.Colors.length < 9223372036854775808) (hs : a.Sectors.length < 9223372036854775807) : zob a = zeb a := by
 unfold zob zeb
 rw [unlit_eq]
 unfold zgh
 rw [validSectors_eq a.Sectors hs, secColors_eq, validMark_eq, name_eq]
 have e1 : zge a.Number = ze a.Number 1 9999 := rfl
 have e2 : zwg a.At = zdg a.At := rfl
 have e3 : zxg a.Height = ze a.Height 0 3000 := rfl
 have e4 : zyg a.Intensity = ze a.Intensity 1 100000000 := rfl
 rw [e1, e2, e3, e4]
 cases hp : zbf a.Light with
 | true =>
  rw [plain_not _ hp]
  simp only [Bool.not_false, Bool.true_or, cond_true, Bool.true_and, Bool.false_or]
  cases ze a.Number 1 9999 <;> cases ztd a.Name <;> cases zdg a.At <;> cases ze a.Height 0 3000 <;> cases zlf a.Mark <;> rfl
 | false =>
  rw [valid_eq a.Light hl]
  simp only [Bool.false_and, Bool.or_false, cond_false]
  cases ze a.Number 1 9999 <;> cases ztd a.Name <;> cases zdg a.At <;> cases ze a.Height 0 3000 <;> cases zlf a.Mark <;> rfl
theorem validAids_eq (l : List Aid) (h : ∀ v ∈ l, v.Light.Colors.length < 9223372036854775808 ∧ v.Sectors.length < 9223372036854775807) : zq l = zr l := by
 unfold zq zr
 rw [loopR_same (b := zq_b1 l) (b' := zr_b1 l) (l.length - 0) 0 () (fun j u _ hj => by
  have := bd_getD (p := fun v : Aid => v.Light.Colors.length < 9223372036854775808 ∧ v.Sectors.length < 9223372036854775807) h ⟨by decide, by decide⟩ j
  simp only [zq_b1, zr_b1, validAid_eq _ this.1 this.2])]
 rfl
end Go.Ab

namespace Go.Ab
open Go Go.Proofs
theorem l12Ok_len {a : List Aid} (h : zr a = true) : a.length ≤ 24 := by
 unfold zr at h
 split at h
 ·rename_i e he
  obtain ⟨j, t, _, _, h3⟩ := loopR_error he
  simp only [zr_b1, Bool.cond_eq_ite] at h3
  split at h3
  ·cases h3; cases h
  ·cases h3
 ·have := of_decide_eq_true h; omega
theorem vAids_len {a : List Aid} (h : zq a = true) : a.length ≤ 24 := by
 unfold zq at h
 split at h
 ·rename_i e he
  obtain ⟨j, t, _, _, h3⟩ := loopR_error he
  simp only [zq_b1, Bool.cond_eq_ite] at h3
  split at h3
  ·cases h3; cases h
  ·cases h3
 ·unfold zkb at h; have := of_decide_eq_true h; omega
end Go.Ab

namespace Go.Ab
open Go Go.Proofs
theorem own_loop {ρ α : Type} [Inhabited α] (l : List α) (b : Nat → List α → Except ρ (List α)) (hb : ∀ i s, b i s = .ok (s ++ [l.getD i default])) : loopR b (l.length - 0) 0 ([] : List α) = .ok l := by
 obtain ⟨t, h1, h2⟩ := loopR_total (b := b) (fun i s => s = l.take i) (k := l.length - 0) (i := 0) (s := []) (by simp) (by
  intro j u _ hj h
  subst h
  exact ⟨_, hb j _, (take_succ_getD l j (by omega)).symm⟩)
 rw [h1, h2]
 simp
theorem copyAid_id (a : Aid) : zdc a = a := by simp [zdc, zzg, zah]
theorem copyAids_id (l : List Aid) : zv l = l := by
 unfold zv
 rw [show (List.replicate 0 (default : Aid)) = [] from rfl, own_loop l (zv_b1 l) (fun i s => by simp only [zv_b1, copyAid_id])]
theorem ownAid_id (a : Aid) : zfc a = a := by simp [zfc, zfh, zeh]
theorem ownAids_id (l : List Aid) : zu l = l := by
 unfold zu
 rw [own_loop l (zu_b1 l) (fun i s => by simp only [zu_b1, ownAid_id])]
end Go.Ab

namespace Go.Ab
open Go Go.Proofs
def zsc (a0 : (List Aid)) (a1 : Aid) : ((List Aid) × Int) :=
 (bif ((!(zq a0)) || (!(zob a1))) then ([], 1) else (bif (zj a0 a1.Number).2 then ([], 4) else (bif ((a0.length : Int) == 24) then ([], 5) else (((zif (zv a0) ((zj a0 a1.Number).1) [zdc a1])), 0))))
namespace N34
theorem DD : DOk Tryz.prog (Go.Ab.DD [(79, dP D_zq), (81, dP D_zdc), (93, dP D_zob), (94, dP D_zj), (95, dM [true, false, true] D_zif), (96, dP D_zv)]) := DD_cons D_zq_ok.e <| DD_cons D_zdc_ok.e <| DD_cons D_zob_ok.e <| DD_cons D_zj_ok.e <| DD_cons D_zif_ok.e <| DD_cons D_zv_ok.e <| DD_nil _
theorem dn : type_of% (And.intro @D_zq.eq_1 <| And.intro @D_zdc.eq_1 <| And.intro @D_zob.eq_1 <| And.intro @D_zj.eq_1 <| And.intro @D_zif.eq_1 <| @D_zv.eq_1) := by and_intros <;> intros <;> rfl
theorem ol : type_of% (@copyAids_id) := @copyAids_id
theorem gr {p : Prop} (h : p := by (grind [vAids_len, zj_ix]); first | done | fail) : p := h
theorem o1 {p : Prop} (h : p := by (first | (have h9 := vAids_len (a := a0) (by simp_all); simp only [ob, ln, ol] at *; omega)); first | done | fail) : p := h
theorem den (a0 : (List Aid)) (a1 : Aid) (hb0 : a0.length < 1099511627776) (hb1 : ∀ v ∈ a0, bdAid v) (hb2 : bdAid a1) : Den Tryz.prog 34 [encL 16 eAid a0, .agg (eAid a1)] (.tup [ownL 63 16 eAidO ((zsc a0 a1).1), .int .i64 ((zsc a0 a1).2)]) := by
 generalize hR : zsc a0 a1 = r
 unfold zsc at hR
 refine di Tryz.func34 Tryz.ntmps34 Tryz.results34 ?_
 intro c hL hc hk
 obtain ⟨hL0, hL1, _⟩ := hL
 have hw0 : a0.length < 9223372036854775808 := Nat.lt_succ_of_le (lens_encL hL0).1
 have hw1 : ∀ v ∈ a0, bwAid v := fun v hv => Aid_lens v ((lens_encL hL0).2 v hv)
 have hw2 : bwAid a1 := Aid_lens a1 hL1
 clear hL0 hL1
 simp only [pars, Nat.zero_add]
 have hix := zj_ix a0 a1.Number hw0
 iterate 2 refine rS ?_
 refine AWP.cond rfl (fun hb => ?_) (fun hb => ?_)
 ·replace hR := ct hR
  refine rS ?_
  refine AWP.ret ?_
  subst hR
  exact es
 ·replace hR := cf hR
  iterate 2 refine rS ?_
  refine AWP.cond rfl (fun hb => ?_) (fun hb => ?_)
  ·replace hR := ct hR
   refine rS ?_
   refine AWP.ret ?_
   subst hR
   exact es
  ·replace hR := cf hR
   refine rS ?_
   refine AWP.cond rfl (fun hb => ?_) (fun hb => ?_)
   ·replace hR := ct hR
    refine rS ?_
    refine AWP.ret ?_
    subst hR
    exact es
   ·replace hR := cf hR
    refine AWP.skip ?_
    refine AWP.seq ?_
    refine AWP.regP mixed G_ok DD hc 6 [0, 2, 3] (.alt 1 [] [2, 3] (.alt 4 [] [2] (.alt 5 [] [2] .leaf .stop) .stop) .stop) (by kernel_rfl) (by kernel_rfl) (by kernel_rfl) (fun K hK => ?_); simp only [rootP, runN, runP, recheck, nthO, ea, absV, absVL, cput, gv, sv, dn, reduceCtorEq, reduceIte, Nat.reduceBEq, Nat.reduceAdd, Nat.reduceEqDiff, Nat.reduceLT, Nat.reduceLeDiff, Nat.reduceMul, Nat.reduceSub, BEq.rfl, beq_self_eq_true, Int.reduceToNat]
    repeat' apply And.intro
    all_goals first | refine hK _ ?_ | exact ot
    all_goals clear hK K
    refine AWP.ret ?_
    subst hR
    exact es
end N34
def D_zsc : DF
 | [x0, x1] => some (.tup [ownL 63 16 eAidO ((zsc (rdL dAid x0) (rdG dAid x1)).1), .int .i64 ((zsc (rdL dAid x0) (rdG dAid x1)).2)], false, [wL 16 eAid dAid x0, wG eAid dAid x1, (rdL dAid x0).length < 1099511627776, ∀ v ∈ (rdL dAid x0), bdAid v, bdAid (rdG dAid x1)])
 | _ => none
theorem D_zsc_ok : OkD Tryz.prog 34 D_zsc := by unfold D_zsc; exact dk N34.den
end Go.Ab

namespace Go.Ab
open Go Go.Proofs
def zfb_b1 (a0 : (List Aid)) (a1 : Aid) (s1 : Int) : Except (Sum (((List Aid) × Int)) (Int)) (Int) :=
 (bif (decide (s1 < (a0.length : Int)) && decide (((a0.getD ((s1).toNat) default).Number) < a1.Number)) then .ok (IntKind.wrap .i64 (s1 + 1)) else .error (.inr s1))
def zfb (a0 : (List Aid)) (a1 : Aid) : ((List Aid) × Int) :=
 (match loopW (zfb_b1 a0 a1) ((a0.length - ((0 : Int)).toNat) + 1) 0 with | .error (.inl e) => e | .error (.inr s1) => (bif (decide (s1 < (a0.length : Int)) && (((a0.getD ((s1).toNat) default).Number) == a1.Number)) then ([], 4) else (bif ((a0.length : Int) == 24) then ([], 5) else (((zu (subL a0 0 ((s1).toNat))) ++ [zfc a1]) ++ (zu (subL a0 ((s1).toNat) (a0.length - (s1).toNat))), 0))) | .ok _ => default)
namespace N88
theorem DD : DOk Tryz.prog (Go.Ab.DD [(106, dP D_zfc), (155, dP D_zu)]) := DD_cons D_zfc_ok.e <| DD_cons D_zu_ok.e <| DD_nil _
theorem dn : type_of% (And.intro @D_zfc.eq_1 <| @D_zu.eq_1) := by and_intros <;> intros <;> rfl
theorem ol : type_of% (@ownAids_id) := @ownAids_id
theorem den (a0 : (List Aid)) (a1 : Aid) (hb0 : a0.length < 1099511627776) (hb1 : ∀ v ∈ a0, bdAid v) (hb2 : bdAid a1) (hp0 : a0.length ≤ 1073741824) : Den Tryz.prog 88 [encL 16 eAid a0, .ep (eAid a1)] (.tup [ownL 63 16 eAidO ((zfb a0 a1).1), .int .i64 ((zfb a0 a1).2)]) := by
 generalize hR : zfb a0 a1 = r
 unfold zfb at hR
 refine di Tryz.func88 Tryz.ntmps88 Tryz.results88 ?_
 intro c hL hc hk
 obtain ⟨hL0, hL1, _⟩ := hL
 have hw0 : a0.length < 9223372036854775808 := Nat.lt_succ_of_le (lens_encL hL0).1
 have hw1 : ∀ v ∈ a0, bwAid v := fun v hv => Aid_lens v ((lens_encL hL0).2 v hv)
 have hw2 : bwAid a1 := Aid_lens a1 hL1
 clear hL0 hL1
 simp only [pars, Nat.zero_add]
 iterate 2 refine rS ?_
 refine AWP.seq ?_
 refine AWP.block ?_
 generalize hz1 : loopW (zfb_b1 a0 a1) ((a0.length - ((0 : Int)).toNat) + 1) 0 = z1 at hR
 refine AWP.whileW (zfb_b1 a0 a1) (fun s1 => ⟨[(0, encL 16 eAid a0), (1, .ep (eAid a1)), (6, .int .i64 s1)], []⟩) (fun s1 => 0 ≤ s1 ∧ s1 ≤ a0.length) (fun s1 => a0.length - (s1).toNat) ((a0.length - ((0 : Int)).toNat) + 1) 0 [] hz1 m0 wt sm ?_
 clear hz1
 intro s1 k1 hW1 hm1 hz1
 simp only [zfb_b1] at hz1
 refine rD 16 ?_
 refine AWP.cond rfl (fun hb => ?_) (fun hb => ?_)
 ·simp only [hb, cond_true] at hz1
  refine rS ?_
  exact ⟨_, [], ms, wt, hz1, sm⟩
 ·simp only [hb, cond_false] at hz1
  refine AWP.exit ?_
  refine exitTo_here ?_
  subst hz1; dsimp only at hR
  refine rD 16 ?_
  refine AWP.cond rfl (fun hb => ?_) (fun hb => ?_)
  ·replace hR := ct hR
   refine rS ?_
   refine AWP.ret ?_
   subst hR
   exact es
  ·replace hR := cf hR
   refine rS ?_
   refine AWP.cond rfl (fun hb => ?_) (fun hb => ?_)
   ·replace hR := ct hR
    refine rS ?_
    refine AWP.ret ?_
    subst hR
    exact es
   ·replace hR := cf hR
    iterate 3 refine rS ?_
    refine AWP.ret ?_
    subst hR
    exact es
end N88
def D_zfb : DF
 | [x0, x1] => some (.tup [ownL 63 16 eAidO ((zfb (rdL dAid x0) (rdP dAid x1)).1), .int .i64 ((zfb (rdL dAid x0) (rdP dAid x1)).2)], false, [wL 16 eAid dAid x0, wP eAid dAid x1, (rdL dAid x0).length < 1099511627776, ∀ v ∈ (rdL dAid x0), bdAid v, bdAid (rdP dAid x1), (rdL dAid x0).length ≤ 1073741824])
 | _ => none
theorem D_zfb_ok : OkD Tryz.prog 88 D_zfb := by unfold D_zfb; exact dk N88.den
end Go.Ab

namespace Go.Ab
open Go Go.Proofs
def zqh (a0 : (List Aid)) (a1 : Aid) : ((List Aid) × Int) :=
 (bif ((!(zr a0)) || (!(zeb a1))) then ([], 1) else ((zfb a0 a1).1, (zfb a0 a1).2))
end Go.Ab

namespace Go.Ab
open Go Go.Proofs
def aidL (v : Aid) : Prop := v.Light.Colors.length < 9223372036854775808 ∧ v.Sectors.length < 9223372036854775807
theorem subL_take {α : Type} [Inhabited α] (l : List α) (n : Nat) (h : n ≤ l.length) : subL l 0 n = l.take n := by
 apply getD_ext
 ·simp [subL, h]
 ·intro i hi
  have hi : i < n := by simpa [subL] using hi
  simp only [subL, Nat.zero_add]
  rw [List.getD_eq_getElem?_getD, List.getD_eq_getElem?_getD, List.getElem?_map, List.getElem?_range hi, List.getElem?_take, if_pos hi]
  simp [List.getD_eq_getElem?_getD]
theorem subL_drop {α : Type} [Inhabited α] (l : List α) (n : Nat) (h : n ≤ l.length) : subL l n (l.length - n) = l.drop n := by
 apply getD_ext
 ·simp [subL]
 ·intro i hi
  have hi : i < l.length - n := by simpa [subL] using hi
  simp only [subL]
  rw [List.getD_eq_getElem?_getD, List.getD_eq_getElem?_getD, List.getElem?_map, List.getElem?_range hi, List.getElem?_drop]
  simp [List.getD_eq_getElem?_getD]
theorem put_upto (l : List Aid) (a : Aid) (hl : l.length < 9223372036854775808) : loopW (zfb_b1 l a) ((l.length - ((0 : Int)).toNat) + 1) 0 = .error (.inr (upto l a.Number : Int)) := by
 have := up_loop l a.Number hl (zfb_b1 l a) (fun s => rfl) l [] (l.length - (0 : Int).toNat + 1) rfl (by simp)
 simp only [List.length_nil, Nat.zero_add] at this
 have e0 : ((0 : Nat) : Int) = 0 := rfl
 simp only [e0] at this
 exact this
def putA (l : List Aid) (a : Aid) : List Aid := l.take (upto l a.Number) ++ [a] ++ l.drop (upto l a.Number)
theorem l12Put_eq (l : List Aid) (a : Aid) (hl : l.length < 9223372036854775808) :
  zfb l a = bif (decide (upto l a.Number < l.length) && ((l.getD (upto l a.Number) default).Number == a.Number)) then ([], 4) else (bif ((l.length : Int) == 24) then ([], 5) else (putA l a, 0)) := by
 unfold zfb
 rw [put_upto l a hl]
 have hu := upto_le l a.Number
 have e : (decide ((upto l a.Number : Int) < (l.length : Int)) && ((l.getD ((upto l a.Number : Int)).toNat default).Number == a.Number)) = (decide (upto l a.Number < l.length) && ((l.getD (upto l a.Number) default).Number == a.Number)) := by
  rw [Int.toNat_natCast]
  congr 1
  exact decide_eq_decide.2 (by omega)
 simp only [ownAids_id, ownAid_id]
 rw [e]
 simp only [Int.toNat_natCast]
 rw [subL_take l _ hu, subL_drop l _ hu]
 rfl
theorem addAid_eq (l : List Aid) (a : Aid) (hl : l.length < 9223372036854775808) (hv : ∀ v ∈ l, aidL v) (ha : aidL a) : zsc l a = zqh l a := by
 unfold zsc zqh
 rw [validAids_eq l hv, validAid_eq a ha.1 ha.2]
 cases hb : ((!(zr l)) || (!(zeb a))) with
 | true => rfl
 | false =>
  simp only [cond_false]
  rw [l12Put_eq l a hl, aidOf_eq l _ hl]
  simp only [copyAids_id, copyAid_id]
  unfold zif
  simp only [Int.toNat_natCast]
  cases (decide (upto l a.Number < l.length) && ((l.getD (upto l a.Number) default).Number == a.Number)) with
  | true => rfl
  | false =>
   simp only [cond_false]
   cases ((l.length : Int) == 24) <;> rfl
end Go.Ab


namespace Go.Ab
open Go Go.Proofs
def zyc (a0 : (List Aid)) (a1 : Aid) : ((List Aid) × Int) :=
 (bif ((!(zq a0)) || (!(zob a1))) then ([], 1) else (bif (!((zj a0 a1.Number).2)) then ([], 3) else ((zv a0).set (((zj a0 a1.Number).1).toNat) (zdc a1), 0)))
namespace N183
theorem DD : DOk Tryz.prog (Go.Ab.DD [(79, dP D_zq), (81, dP D_zdc), (93, dP D_zob), (94, dP D_zj), (96, dP D_zv)]) := DD_cons D_zq_ok.e <| DD_cons D_zdc_ok.e <| DD_cons D_zob_ok.e <| DD_cons D_zj_ok.e <| DD_cons D_zv_ok.e <| DD_nil _
theorem dn : type_of% (And.intro @D_zq.eq_1 <| And.intro @D_zdc.eq_1 <| And.intro @D_zob.eq_1 <| And.intro @D_zj.eq_1 <| @D_zv.eq_1) := by and_intros <;> intros <;> rfl
theorem ol : type_of% (@copyAids_id) := @copyAids_id
theorem gr {p : Prop} (h : p := by (grind [vAids_len, zj_ix]); first | done | fail) : p := h
theorem den (a0 : (List Aid)) (a1 : Aid) (hb0 : a0.length < 1099511627776) (hb1 : ∀ v ∈ a0, bdAid v) (hb2 : bdAid a1) : Den Tryz.prog 183 [encL 16 eAid a0, .agg (eAid a1)] (.tup [ownL 63 16 eAidO ((zyc a0 a1).1), .int .i64 ((zyc a0 a1).2)]) := by
 generalize hR : zyc a0 a1 = r
 unfold zyc at hR
 refine di Tryz.func183 Tryz.ntmps183 Tryz.results183 ?_
 intro c hL hc hk
 obtain ⟨hL0, hL1, _⟩ := hL
 have hw0 : a0.length < 9223372036854775808 := Nat.lt_succ_of_le (lens_encL hL0).1
 have hw1 : ∀ v ∈ a0, bwAid v := fun v hv => Aid_lens v ((lens_encL hL0).2 v hv)
 have hw2 : bwAid a1 := Aid_lens a1 hL1
 clear hL0 hL1
 simp only [pars, Nat.zero_add]
 have hix := zj_ix a0 a1.Number hw0
 iterate 2 refine rS ?_
 refine AWP.cond rfl (fun hb => ?_) (fun hb => ?_)
 ·replace hR := ct hR
  refine rS ?_
  refine AWP.ret ?_
  subst hR
  exact es
 ·replace hR := cf hR
  iterate 2 refine rS ?_
  refine AWP.cond rfl (fun hb => ?_) (fun hb => ?_)
  ·replace hR := ct hR
   refine rS ?_
   refine AWP.ret ?_
   subst hR
   exact es
  ·replace hR := cf hR
   iterate 3 refine rS ?_
   refine AWP.ret ?_
   subst hR
   exact es
end N183
def D_zyc : DF
 | [x0, x1] => some (.tup [ownL 63 16 eAidO ((zyc (rdL dAid x0) (rdG dAid x1)).1), .int .i64 ((zyc (rdL dAid x0) (rdG dAid x1)).2)], false, [wL 16 eAid dAid x0, wG eAid dAid x1, (rdL dAid x0).length < 1099511627776, ∀ v ∈ (rdL dAid x0), bdAid v, bdAid (rdG dAid x1)])
 | _ => none
theorem D_zyc_ok : OkD Tryz.prog 183 D_zyc := by unfold D_zyc; exact dk N183.den
end Go.Ab

namespace Go.Ab
open Go Go.Proofs
def zzc (a0 : (List Aid)) (a1 : Int) : ((List Aid) × Int) :=
 (bif (!(zq a0)) then ([], 1) else (bif (!((zj a0 a1).2)) then ([], 3) else (((zjf (zv a0) ((zj a0 a1).1) (IntKind.wrap .i64 (((zj a0 a1).1) + 1)))), 0)))
namespace N184
theorem DD : DOk Tryz.prog (Go.Ab.DD [(218, dM [true, false, false] D_zjf), (79, dP D_zq), (94, dP D_zj), (96, dP D_zv)]) := DD_cons D_zjf_ok.e <| DD_cons D_zq_ok.e <| DD_cons D_zj_ok.e <| DD_cons D_zv_ok.e <| DD_nil _
theorem dn : type_of% (And.intro @D_zjf.eq_1 <| And.intro @D_zq.eq_1 <| And.intro @D_zj.eq_1 <| @D_zv.eq_1) := by and_intros <;> intros <;> rfl
theorem ol : type_of% (@copyAids_id) := @copyAids_id
theorem gr {p : Prop} (h : p := by (grind [vAids_len, zj_ix]); first | done | fail) : p := h
theorem den (a0 : (List Aid)) (a1 : Int) (hb0 : a0.length < 1099511627776) (hb1 : ∀ v ∈ a0, bdAid v) : Den Tryz.prog 184 [encL 16 eAid a0, .int .i64 a1] (.tup [ownL 63 16 eAidO ((zzc a0 a1).1), .int .i64 ((zzc a0 a1).2)]) := by
 generalize hR : zzc a0 a1 = r
 unfold zzc at hR
 refine di Tryz.func184 Tryz.ntmps184 Tryz.results184 ?_
 intro c hL hc hk
 obtain ⟨hL0, hL1, _⟩ := hL
 have hw0 : a0.length < 9223372036854775808 := Nat.lt_succ_of_le (lens_encL hL0).1
 have hw1 : ∀ v ∈ a0, bwAid v := fun v hv => Aid_lens v ((lens_encL hL0).2 v hv)
 clear hL0 hL1
 simp only [pars, Nat.zero_add]
 have hix := zj_ix a0 a1 hw0
 iterate 2 refine rS ?_
 refine AWP.cond rfl (fun hb => ?_) (fun hb => ?_)
 ·replace hR := ct hR
  refine rS ?_
  refine AWP.ret ?_
  subst hR
  exact es
 ·replace hR := cf hR
  iterate 2 refine rS ?_
  refine AWP.cond rfl (fun hb => ?_) (fun hb => ?_)
  ·replace hR := ct hR
   refine rS ?_
   refine AWP.ret ?_
   subst hR
   exact es
  ·replace hR := cf hR
   refine rS ?_
   refine AWP.ret ?_
   subst hR
   exact es
end N184
def D_zzc : DF
 | [x0, x1] => some (.tup [ownL 63 16 eAidO ((zzc (rdL dAid x0) (rdI x1)).1), .int .i64 ((zzc (rdL dAid x0) (rdI x1)).2)], false, [wL 16 eAid dAid x0, wI .i64 x1, (rdL dAid x0).length < 1099511627776, ∀ v ∈ (rdL dAid x0), bdAid v])
 | _ => none
theorem D_zzc_ok : OkD Tryz.prog 184 D_zzc := by unfold D_zzc; exact dk N184.den
end Go.Ab

namespace Go.Ab
open Go Go.Proofs
def znc (a0 : (List Aid)) (a1 : Aid) : ((List Aid) × Int) :=
 (bif decide ((zh a0 a1.Number) < 0) then ([], 3) else ((zu a0).set (((zh a0 a1.Number)).toNat) (zfc a1), 0))
namespace N216
theorem DD : DOk Tryz.prog (Go.Ab.DD [(106, dP D_zfc), (142, dP D_zh), (155, dP D_zu)]) := DD_cons D_zfc_ok.e <| DD_cons D_zh_ok.e <| DD_cons D_zu_ok.e <| DD_nil _
theorem dn : type_of% (And.intro @D_zfc.eq_1 <| And.intro @D_zh.eq_1 <| @D_zu.eq_1) := by and_intros <;> intros <;> rfl
theorem ol : type_of% (@ownAids_id) := @ownAids_id
theorem gr {p : Prop} (h : p := by (grind [zh_lt]); first | done | fail) : p := h
theorem den (a0 : (List Aid)) (a1 : Aid) (hb0 : a0.length < 1099511627776) (hb1 : ∀ v ∈ a0, bdAid v) (hb2 : bdAid a1) (hp0 : a0.length ≤ 1073741824) : Den Tryz.prog 216 [encL 16 eAid a0, .ep (eAid a1)] (.tup [ownL 63 16 eAidO ((znc a0 a1).1), .int .i64 ((znc a0 a1).2)]) := by
 generalize hR : znc a0 a1 = r
 unfold znc at hR
 refine di Tryz.func216 Tryz.ntmps216 Tryz.results216 ?_
 intro c hL hc hk
 obtain ⟨hL0, hL1, _⟩ := hL
 have hw0 : a0.length < 9223372036854775808 := Nat.lt_succ_of_le (lens_encL hL0).1
 have hw1 : ∀ v ∈ a0, bwAid v := fun v hv => Aid_lens v ((lens_encL hL0).2 v hv)
 have hw2 : bwAid a1 := Aid_lens a1 hL1
 clear hL0 hL1
 simp only [pars, Nat.zero_add]
 have hix := zh_lt a0 a1.Number
 iterate 3 refine rS ?_
 refine AWP.cond rfl (fun hb => ?_) (fun hb => ?_)
 ·replace hR := ct hR
  refine rS ?_
  refine AWP.ret ?_
  subst hR
  exact es
 ·replace hR := cf hR
  iterate 3 refine rS ?_
  refine AWP.ret ?_
  subst hR
  exact es
end N216
def D_znc : DF
 | [x0, x1] => some (.tup [ownL 63 16 eAidO ((znc (rdL dAid x0) (rdP dAid x1)).1), .int .i64 ((znc (rdL dAid x0) (rdP dAid x1)).2)], false, [wL 16 eAid dAid x0, wP eAid dAid x1, (rdL dAid x0).length < 1099511627776, ∀ v ∈ (rdL dAid x0), bdAid v, bdAid (rdP dAid x1), (rdL dAid x0).length ≤ 1073741824])
 | _ => none
theorem D_znc_ok : OkD Tryz.prog 216 D_znc := by unfold D_znc; exact dk N216.den
end Go.Ab

namespace Go.Ab
open Go Go.Proofs
def zoc (a0 : (List Aid)) (a1 : Int) : ((List Aid) × Int) :=
 (bif decide ((zh a0 a1) < 0) then ([], 3) else ((zu (subL a0 0 (((zh a0 a1)).toNat))) ++ (zu (subL a0 ((IntKind.wrap .i64 ((zh a0 a1) + 1)).toNat) (a0.length - (IntKind.wrap .i64 ((zh a0 a1) + 1)).toNat))), 0))
namespace N217
theorem DD : DOk Tryz.prog (Go.Ab.DD [(142, dP D_zh), (155, dP D_zu)]) := DD_cons D_zh_ok.e <| DD_cons D_zu_ok.e <| DD_nil _
theorem dn : type_of% (And.intro @D_zh.eq_1 <| @D_zu.eq_1) := by and_intros <;> intros <;> rfl
theorem ol : type_of% (@ownAids_id) := @ownAids_id
theorem gr {p : Prop} (h : p := by (grind [zh_lt]); first | done | fail) : p := h
theorem den (a0 : (List Aid)) (a1 : Int) (hb0 : a0.length < 1099511627776) (hb1 : ∀ v ∈ a0, bdAid v) (hp0 : a0.length ≤ 1073741824) : Den Tryz.prog 217 [encL 16 eAid a0, .int .i64 a1] (.tup [ownL 63 16 eAidO ((zoc a0 a1).1), .int .i64 ((zoc a0 a1).2)]) := by
 generalize hR : zoc a0 a1 = r
 unfold zoc at hR
 refine di Tryz.func217 Tryz.ntmps217 Tryz.results217 ?_
 intro c hL hc hk
 obtain ⟨hL0, hL1, _⟩ := hL
 have hw0 : a0.length < 9223372036854775808 := Nat.lt_succ_of_le (lens_encL hL0).1
 have hw1 : ∀ v ∈ a0, bwAid v := fun v hv => Aid_lens v ((lens_encL hL0).2 v hv)
 clear hL0 hL1
 simp only [pars, Nat.zero_add]
 have hix := zh_lt a0 a1
 iterate 3 refine rS ?_
 refine AWP.cond rfl (fun hb => ?_) (fun hb => ?_)
 ·replace hR := ct hR
  refine rS ?_
  refine AWP.ret ?_
  subst hR
  exact es
 ·replace hR := cf hR
  iterate 2 refine rS ?_
  refine AWP.ret ?_
  subst hR
  exact es
end N217
def D_zoc : DF
 | [x0, x1] => some (.tup [ownL 63 16 eAidO ((zoc (rdL dAid x0) (rdI x1)).1), .int .i64 ((zoc (rdL dAid x0) (rdI x1)).2)], false, [wL 16 eAid dAid x0, wI .i64 x1, (rdL dAid x0).length < 1099511627776, ∀ v ∈ (rdL dAid x0), bdAid v, (rdL dAid x0).length ≤ 1073741824])
 | _ => none
theorem D_zoc_ok : OkD Tryz.prog 217 D_zoc := by unfold D_zoc; exact dk N217.den
end Go.Ab

namespace Go.Ab
open Go Go.Proofs
def ltA (a b : Aid) : Prop := a.Number < b.Number
theorem ltA_trans (a b c : Aid) (h : ltA a b) (k : ltA b c) : ltA a c := by unfold ltA at *; omega
def okA (l : List Aid) : Prop := (∀ v ∈ l, zeb v = true) ∧ l.Pairwise ltA ∧ l.length ≤ 24
theorem okA_iff (l : List Aid) : zr l = true ↔ okA l := by
 unfold zr
 refine Iff.trans (loopR_allF (b := zr_b1 l) (fun j => (!(zeb (l.getD j default))) || (decide (0 < (j : Int)) && decide (((l.getD j default).Number) ≤ ((l.getD ((IntKind.wrap .i64 ((j : Int) - 1)).toNat) default).Number)))) l.length _ (fun j u _ => rfl)) ?_
 unfold okA
 rw [pw_adj ltA ltA_trans l, decide_eq_true_eq]
 have e : ∀ j : Nat, 0 < j → j < l.length → l.length < 9223372036854775808 → (IntKind.wrap .i64 ((j : Int) - 1)).toNat = j - 1 := by
  intro j h0 h1 h2
  rw [IntKind.wrap_i64]; omega
 constructor
 ·rintro ⟨h1, h2⟩
  have h2' : l.length ≤ 24 := by omega
  refine ⟨fun v hv => ?_, fun j hj => ?_, h2'⟩
  ·obtain ⟨j, hj, rfl⟩ := List.getElem_of_mem hv
   have := h1 j hj
   rw [Bool.or_eq_false_iff] at this
   have h3 := this.1
   rw [List.getD_eq_getElem?_getD, List.getElem?_eq_getElem hj] at h3
   simpa using h3
  ·have := h1 (j + 1) hj
   rw [Bool.or_eq_false_iff, e (j + 1) (by omega) hj (by omega)] at this
   have h3 := this.2
   simp only [Nat.add_sub_cancel] at h3
   unfold ltA
   simp only [Bool.and_eq_false_iff, decide_eq_false_iff_not] at h3
   rcases h3 with h3 | h3 <;> omega
 ·rintro ⟨h1, h2, h3⟩
  refine ⟨fun j hj => ?_, by omega⟩
  rw [Bool.or_eq_false_iff]
  constructor
  ·have : l.getD j default ∈ l := by
    rw [List.getD_eq_getElem?_getD, List.getElem?_eq_getElem hj]
    exact List.getElem_mem hj
   rw [h1 _ this]; rfl
  ·cases j with
   | zero => simp
   | succ j =>
    rw [e (j + 1) (by omega) hj (by omega)]
    have := h2 j hj
    unfold ltA at this
    simp only [Nat.add_sub_cancel, Bool.and_eq_false_iff, decide_eq_false_iff_not]
    right; omega
theorem upto_lt (l : List Aid) (n : Int) : ∀ j, j < upto l n → (l.getD j default).Number < n := by
 unfold upto
 induction l with
 | nil => intro j hj; simp at hj
 | cons x l ih =>
  intro j hj
  rw [List.takeWhile_cons] at hj
  by_cases h : x.Number < n
  ·rw [if_pos (decide_eq_true h)] at hj
   cases j with
   | zero => exact h
   | succ j => exact ih j (by simpa using hj)
  ·rw [if_neg (by simpa using h)] at hj
   simp at hj
theorem upto_at (l : List Aid) (n : Int) : upto l n < l.length → ¬ (l.getD (upto l n) default).Number < n := by
 unfold upto
 induction l with
 | nil => intro h; simp at h
 | cons x l ih =>
  intro hj
  rw [List.takeWhile_cons] at hj ⊢
  by_cases h : x.Number < n
  ·rw [if_pos (decide_eq_true h)] at hj ⊢
   exact ih (by simpa using hj)
  ·rw [if_neg (by simpa using h)]
   exact h
theorem upto_eq (l : List Aid) (n : Int) (j : Nat) (hj : j ≤ l.length) (h1 : ∀ q, q < j → (l.getD q default).Number < n) (h2 : j < l.length → ¬ (l.getD j default).Number < n) : upto l n = j := by
 have hu := upto_le l n
 rcases Nat.lt_trichotomy (upto l n) j with h | h | h
 ·exact absurd (h1 _ h) (upto_at l n (by omega))
 ·exact h
 ·exact absurd (upto_lt l n j h) (h2 (by omega))
theorem pw_getD {l : List Aid} (h : l.Pairwise ltA) {i j : Nat} (hij : i < j) (hj : j < l.length) : (l.getD i default).Number < (l.getD j default).Number := by
 have := List.pairwise_iff_getElem.1 h i j (by omega) hj hij
 rw [List.getD_eq_getElem?_getD, List.getD_eq_getElem?_getD, List.getElem?_eq_getElem hj, List.getElem?_eq_getElem (show i < l.length by omega)]
 exact this
def hasN (l : List Aid) (n : Int) : Bool := decide (upto l n < l.length) && ((l.getD (upto l n) default).Number == n)
theorem find_eq (l : List Aid) (n : Int) (h : l.Pairwise ltA) : zh l n = bif hasN l n then (upto l n : Int) else -1 := by
 rcases find_first l n with ⟨j, h1, h2, h3, h4⟩ | ⟨h1, h2⟩
 ·have e : upto l n = j := upto_eq l n j (by omega) (fun q hq => by rw [← h2]; exact pw_getD h hq h1) (fun _ => by omega)
  have : hasN l n = true := by
   unfold hasN
   rw [e, h2]
   simp [h1]
  rw [this, h4, e]; rfl
 ·have : hasN l n = false := by
   unfold hasN
   cases hd : decide (upto l n < l.length) with
   | false => rfl
   | true =>
    have := h1 _ (of_decide_eq_true hd)
    simpa using this
  rw [this, h2]; rfl
theorem hasN_lt {l : List Aid} {n : Int} (h : hasN l n = true) : upto l n < l.length ∧ (l.getD (upto l n) default).Number = n := by
 unfold hasN at h
 simpa using h
theorem aidOf_eq' (l : List Aid) (n : Int) (hl : l.length < 9223372036854775808) : zj l n = ((upto l n : Int), hasN l n) := aidOf_eq l n hl
theorem addAid_put (l : List Aid) (a : Aid) (hl : okA l) (hv : ∀ v ∈ l, aidL v) (ha : aidL a) (h1 : zeb a = true) : zsc l a = zfb l a := by
 have hl' := hl.2.2
 rw [addAid_eq l a (by omega) hv ha]
 unfold zqh
 rw [(okA_iff l).2 hl, h1]
 rfl
theorem replAid_eq (l : List Aid) (a : Aid) (hl : okA l) (hv : ∀ v ∈ l, aidL v) (ha : aidL a) (h1 : zeb a = true) : zyc l a = znc l a := by
 have hl' := hl.2.2
 unfold zyc znc
 rw [validAids_eq l hv, validAid_eq a ha.1 ha.2, (okA_iff l).2 hl, h1, aidOf_eq' l _ (by omega), find_eq l _ hl.2.1]
 simp only [copyAids_id, copyAid_id, ownAids_id, ownAid_id, Bool.not_true, Bool.or_false, cond_false]
 cases hasN l a.Number with
 | true => simp only [Bool.not_true, cond_false, cond_true]; rw [decide_eq_false (by omega)]; rfl
 | false => rfl
theorem dropAid_eq (l : List Aid) (n : Int) (hl : okA l) (hv : ∀ v ∈ l, aidL v) : zzc l n = zoc l n := by
 have hl' := hl.2.2
 unfold zzc zoc
 rw [validAids_eq l hv, (okA_iff l).2 hl, aidOf_eq' l _ (by omega), find_eq l _ hl.2.1]
 simp only [copyAids_id, ownAids_id, Bool.not_true, cond_false]
 cases hn : hasN l n with
 | true =>
  have hu := (hasN_lt hn).1
  simp only [Bool.not_true, cond_false, cond_true]
  rw [decide_eq_false (by omega)]
  have hw : IntKind.wrap .i64 ((upto l n : Int) + 1) = ((upto l n + 1 : Nat) : Int) := by rw [IntKind.wrap_i64]; omega
  unfold zjf
  simp only [cond_false, hw, Int.toNat_natCast]
  rw [subL_take l _ (by omega), subL_drop l _ (by omega)]
 | false => rfl
def okP (P : Aid → Prop) (l : List Aid) : Prop := okA l ∧ ∀ v ∈ l, P v
theorem put_okP (P : Aid → Prop) {l t : List Aid} {a : Aid} (hl : okP P l) (ha : zeb a = true ∧ P a) (h : zfb l a = (t, 0)) : okP P t := by
 have hl' := hl.1.2.2
 rw [l12Put_eq l a (by omega)] at h
 change (bif hasN l a.Number then ([], 4) else _) = _ at h
 cases hn : hasN l a.Number with
 | true => rw [hn] at h; simp at h
 | false =>
  rw [hn, cond_false] at h
  cases h24 : ((l.length : Int) == 24) with
  | true => rw [h24] at h; simp at h
  | false =>
   rw [h24, cond_false] at h
   simp only [Prod.mk.injEq, and_true] at h
   subst h
   have hne : l.length ≠ 24 := by
    intro e; rw [e] at h24; simp at h24
   have hu := upto_le l a.Number
   have hmem : ∀ v, v ∈ putA l a → v ∈ l ∨ v = a := by
    intro v hv
    simp only [putA, List.mem_append, List.mem_singleton] at hv
    rcases hv with (hv | hv) | hv
    ·exact .inl (List.mem_of_mem_take hv)
    ·exact .inr hv
    ·exact .inl (List.mem_of_mem_drop hv)
   refine ⟨⟨fun v hv => ?_, ?_, ?_⟩, fun v hv => ?_⟩
   ·rcases hmem v hv with h | rfl
    ·exact hl.1.1 v h
    ·exact ha.1
   ·have hpw := hl.1.2.1
    have h0 : l.take (upto l a.Number) ++ l.drop (upto l a.Number) = l := List.take_append_drop _ _
    have hp2 : (l.take (upto l a.Number) ++ l.drop (upto l a.Number)).Pairwise ltA := by rw [h0]; exact hpw
    rw [List.pairwise_append] at hp2
    obtain ⟨p1, p2, p3⟩ := hp2
    have hlo : ∀ x ∈ l.take (upto l a.Number), ltA x a := by
     intro x hx
     obtain ⟨j, hj, rfl⟩ := List.getElem_of_mem hx
     have hj' : j < upto l a.Number := by simp at hj; omega
     have := upto_lt l a.Number j hj'
     rw [List.getD_eq_getElem?_getD, List.getElem?_eq_getElem (show j < l.length by omega)] at this
     simp only [List.getElem_take]
     exact this
    have hhi : ∀ x ∈ l.drop (upto l a.Number), ltA a x := by
     intro x hx
     obtain ⟨j, hj, rfl⟩ := List.getElem_of_mem hx
     have hj' : upto l a.Number + j < l.length := by simp at hj; omega
     simp only [List.getElem_drop]
     have h1 := upto_at l a.Number (by omega)
     have h2 : (l.getD (upto l a.Number) default).Number ≠ a.Number := by
      unfold hasN at hn
      rw [decide_eq_true (show upto l a.Number < l.length by omega)] at hn
      simpa using hn
     unfold ltA
     have h3 : (l[upto l a.Number + j]'hj').Number = (l.getD (upto l a.Number + j) default).Number := by
      rw [List.getD_eq_getElem?_getD, List.getElem?_eq_getElem hj']; rfl
     rw [h3]
     cases j with
     | zero => simp only [Nat.add_zero]; omega
     | succ j =>
      have := pw_getD hpw (show upto l a.Number < upto l a.Number + (j + 1) by omega) hj'
      omega
    unfold putA
    rw [List.append_assoc, List.pairwise_append]
    refine ⟨p1, ?_, fun x hx y hy => ?_⟩
    ·rw [List.singleton_append, List.pairwise_cons]; exact ⟨hhi, p2⟩
    ·rw [List.singleton_append, List.mem_cons] at hy
     rcases hy with rfl | hy
     ·exact hlo x hx
     ·exact p3 x hx y hy
   ·simp [putA]; omega
   ·rcases hmem v hv with h | rfl
    ·exact hl.2 v h
    ·exact ha.2
theorem repl_okP (P : Aid → Prop) {l t : List Aid} {a : Aid} (hl : okP P l) (ha : zeb a = true ∧ P a) (h : znc l a = (t, 0)) : okP P t := by
 have hl' := hl.1.2.2
 unfold znc at h
 rw [find_eq l _ hl.1.2.1] at h
 cases hn : hasN l a.Number with
 | false => rw [hn] at h; simp at h
 | true =>
  rw [hn, cond_true, decide_eq_false (by omega), cond_false] at h
  simp only [Int.toNat_natCast, ownAids_id, ownAid_id, Prod.mk.injEq, and_true] at h
  subst h
  obtain ⟨hu, hnum⟩ := hasN_lt hn
  have hmem : ∀ v, v ∈ l.set (upto l a.Number) a → v ∈ l ∨ v = a := fun v hv => by
   rcases List.mem_or_eq_of_mem_set hv with h | h
   ·exact .inl h
   ·exact .inr h
  have hN : ∀ j, ((l.set (upto l a.Number) a).getD j default).Number = (l.getD j default).Number := by
   intro j
   by_cases hj : j = upto l a.Number
   ·subst hj
    rw [hnum, List.getD_eq_getElem?_getD, List.getElem?_set_self hu]; rfl
   ·rw [List.getD_eq_getElem?_getD, List.getElem?_set_ne (by omega), ← List.getD_eq_getElem?_getD]
  refine ⟨⟨fun v hv => ?_, ?_, by simpa using hl'⟩, fun v hv => ?_⟩
  ·rcases hmem v hv with h | rfl
   ·exact hl.1.1 v h
   ·exact ha.1
  ·rw [pw_adj ltA ltA_trans]
   intro j hj
   unfold ltA
   rw [hN, hN]
   exact pw_getD hl.1.2.1 (by omega) (by simpa using hj)
  ·rcases hmem v hv with h | rfl
   ·exact hl.2 v h
   ·exact ha.2
theorem drop_okP (P : Aid → Prop) {l t : List Aid} {n : Int} (hl : okP P l) (h : zoc l n = (t, 0)) : okP P t := by
 have hl' := hl.1.2.2
 unfold zoc at h
 rw [find_eq l _ hl.1.2.1] at h
 cases hn : hasN l n with
 | false => rw [hn] at h; simp at h
 | true =>
  have hu := (hasN_lt hn).1
  have hw : IntKind.wrap .i64 ((upto l n : Int) + 1) = ((upto l n + 1 : Nat) : Int) := by rw [IntKind.wrap_i64]; omega
  rw [hn, cond_true, decide_eq_false (by omega), cond_false] at h
  simp only [hw, Int.toNat_natCast, ownAids_id, Prod.mk.injEq, and_true] at h
  rw [subL_take l _ (by omega), subL_drop l _ (by omega)] at h
  subst h
  have hsub : (l.take (upto l n) ++ l.drop (upto l n + 1)).Sublist l := by
   have h0 : l.take (upto l n) ++ l.drop (upto l n) = l := List.take_append_drop _ _
   conv => rhs; rw [← h0]
   refine List.Sublist.append (List.Sublist.refl _) ?_
   rw [← List.drop_drop]
   exact List.drop_sublist _ _
  refine ⟨⟨fun v hv => hl.1.1 v (hsub.subset hv), hl.1.2.1.sublist hsub, ?_⟩, fun v hv => hl.2 v (hsub.subset hv)⟩
  have := hsub.length_le
  omega
theorem sameChar_eq (a b : Character) : zme a b = zqg a b := by
 unfold zme zqg
 rfl
theorem sameAid_eq (a b : Aid) : zqe a b = zhb a b := by
 unfold zqe zhb
 rw [sameChar_eq]
 rfl
end Go.Ab

namespace Go.Ab
open Go Go.Proofs
def za_b1 (a0 : (List Int)) (a1 : Int) (i1 : Nat) (s1 : Int × List Int) : Except (Int × (List Int)) (Int × List Int) :=
 .ok (IntKind.wrap .i64 (s1.1 + 1), s1.2.set i1 s1.1)
def za (a0 : (List Int)) (a1 : Int) : Int × (List Int) :=
 (match loopR (za_b1 a0 a1) (a0.length - 0) 0 (a1, a0) with | .error e => e | .ok s1 => (s1.1, s1.2))
namespace N20
theorem DD : DOk Tryz.prog (Go.Ab.DD []) := DD_nil _
theorem den (a0 : (List Int)) (a1 : Int)  : DenM Tryz.prog 20 [ownL 2 1 eIi64 a0, .int .i64 a1] (.int .i64 ((za a0 a1).1)) [(ownL 2 1 eIi64 ((za a0 a1).2)), .any] := by
 generalize hR : za a0 a1 = r
 unfold za at hR
 refine dj (gb := [true, false]) Tryz.func20 Tryz.ntmps20 Tryz.results20 ?_
 intro c hL hc hk
 obtain ⟨hL0, hL1, _⟩ := hL
 have hw0 : a0.length < 9223372036854775808 := Nat.lt_succ_of_le (lens_ownL hL0).1
 clear hL0 hL1
 simp only [adEL, adE, adRL, adR, ownL, encL, sv, List.nil_append, List.append_nil, List.cons_append, List.length_cons, List.length_nil, pars, Nat.zero_add, Nat.reduceAdd] at hk ⊢
 iterate 2 refine rS ?_
 refine AWP.block ?_
 generalize hz1 : loopR (za_b1 a0 a1) (a0.length - 0) 0 (a1, a0) = z1 at hR
 refine AWP.range (za_b1 a0 a1) (fun i1 s1 => ⟨[(0, .ref 0 1 0 s1.2.length), (1, .int .i64 s1.1), (5, .int .i64 (i1 : Int))], [.arr 2 1 s1.2.length (fun j => eIi64 (s1.2.getD j default))]⟩) (fun i1 s1 => s1.2.length = a0.length) (a0.length) 0 (a1, a0) [0] hz1 ot wt sm ?_
 clear hz1
 intro i1 s1 hi1 hW1 hz1
 refine rS ?_
 refine AWP.cond rfl (fun hb => ?_) (fun hb => ?_)
 ·have hlt1 : i1 < a0.length := ot
  rw [loopR_lt hlt1] at hz1; simp only [za_b1] at hz1
  iterate 3 refine rS ?_
  exact ⟨_, [0], hlt1, wt, hz1, sm⟩
 ·obtain rfl : i1 = a0.length := ot
  rw [loopR_ge (Nat.le_refl _)] at hz1; subst hz1; dsimp only at hR
  refine AWP.exit ?_; refine exitTo_here ?_
  refine rS ?_
  refine AWP.ret ?_
  subst hR
  exact es
end N20
def D_za : List AV → Option (AV × List AV × List Prop)
 | [x0, x1] => some (.int .i64 ((za (rdL dIi64 x0) (rdI x1)).1), [(ownL 2 1 eIi64 ((za (rdL dIi64 x0) (rdI x1)).2)), .any], [wO 2 1 eIi64 dIi64 x0, wI .i64 x1])
 | _ => none
theorem D_za_ok : OkM Tryz.prog 20 D_za := by unfold D_za; exact dm N20.den
end Go.Ab

namespace Go.Ab
open Go Go.Proofs
def zf_b1 (a0 : Int) (s1 : Int × List UInt8) : Except (Sum ((List UInt8)) (Int × List UInt8)) (Int × List UInt8) :=
 (bif decide (0 < s1.1) then .ok (IntKind.wrap .i64 (s1.1.tdiv 10), (([IntKind.wrap .u8 (IntKind.wrap .i64 (48 + (s1.1.tmod 10)))] : List Int).map fun z => UInt8.ofNat z.toNat) ++ s1.2) else .error (.inr (s1.1, s1.2)))
def zf (a0 : Int) : (List UInt8) :=
 (bif decide (a0 ≤ 0) then [109, 48] else (match loopW (zf_b1 a0) (((a0).toNat) + 1) (a0, []) with | .error (.inl e) => e | .error (.inr s1) => [109] ++ s1.2 | .ok _ => default))
namespace N75
theorem DD : DOk Tryz.prog (Go.Ab.DD []) := DD_nil _
theorem den (a0 : Int) (hp0 : a0 ≤ 9223372036854775807) : Den Tryz.prog 75 [.int .i64 a0] (.str (zf a0)) := by
 generalize hR : zf a0 = r
 unfold zf at hR
 refine di Tryz.func75 Tryz.ntmps75 Tryz.results75 ?_
 intro c hL hc hk
 clear hL
 simp only [pars, Nat.zero_add]
 iterate 2 refine rS ?_
 refine AWP.cond rfl (fun hb => ?_) (fun hb => ?_)
 ·replace hR := ct hR
  refine rS ?_
  refine AWP.ret ?_
  subst hR
  exact es
 ·replace hR := cf hR
  refine rS ?_
  refine AWP.seq ?_
  refine AWP.block ?_
  generalize hz1 : loopW (zf_b1 a0) (((a0).toNat) + 1) (a0, []) = z1 at hR
  refine AWP.whileW (zf_b1 a0) (fun s1 => ⟨[(0, .int .i64 s1.1), (3, .str s1.2)], []⟩) (fun s1 => 0 ≤ s1.1 ∧ s1.2.length ≤ 19 ∧ s1.1 * 10 ^ s1.2.length ≤ a0) (fun s1 => (s1.1).toNat) (((a0).toNat) + 1) (a0, []) [] hz1 m0 (by (refine ⟨by have := of_decide_eq_false hb; simp only; omega, by simp, by simp⟩)) sm ?_
  clear hz1
  intro s1 k1 hW1 hm1 hz1
  simp only [zf_b1] at hz1
  refine rS ?_
  refine AWP.cond rfl (fun hb => ?_) (fun hb => ?_)
  ·simp only [hb, cond_true] at hz1
   iterate 2 refine rS ?_
   exact ⟨_, [], by (exact Nat.lt_of_lt_of_le (digd hW1 hb hp0) (Nat.le_of_lt_succ hm1)), by (exact digw rfl hW1 hb hp0), hz1, sm⟩
  ·simp only [hb, cond_false] at hz1
   refine AWP.exit ?_
   refine exitTo_here ?_
   subst hz1; dsimp only at hR
   refine rS ?_
   refine AWP.ret ?_
   subst hR
   exact es
end N75
def D_zf : DF
 | [x0] => some (.str (zf (rdI x0)), false, [wI .i64 x0, (rdI x0) ≤ 9223372036854775807])
 | _ => none
theorem D_zf_ok : OkD Tryz.prog 75 D_zf := by unfold D_zf; exact dk N75.den
end Go.Ab

namespace Go.Ab
open Go Go.Proofs
def zk_b1 (a0 : (List Sector)) (a1 : Int) (i1 : Nat) (s1 : Int × List Sector) : Except (Int × (List Sector)) (Int × List Sector) :=
 .ok (IntKind.wrap .i64 ((IntKind.wrap .i64 ((IntKind.wrap .i64 (s1.1 + 1)) + 1)) + 1), s1.2.set i1 ({ From := s1.1, To := IntKind.wrap .i64 (s1.1 + 1), Color := (zf (IntKind.wrap .i64 ((IntKind.wrap .i64 (s1.1 + 1)) + 1))) : Sector }))
def zk (a0 : (List Sector)) (a1 : Int) : Int × (List Sector) :=
 (match loopR (zk_b1 a0 a1) (a0.length - 0) 0 (a1, a0) with | .error e => e | .ok s1 => (s1.1, s1.2))
namespace N76
theorem DD : DOk Tryz.prog (Go.Ab.DD [(75, dP D_zf)]) := DD_cons D_zf_ok.e <| DD_nil _
theorem dn : type_of% (@D_zf.eq_1) := by and_intros <;> intros <;> rfl
theorem den (a0 : (List Sector)) (a1 : Int) (hp0 : a1 ≤ 9223372036854775807) : DenM Tryz.prog 76 [ownL 180 3 eSector a0, .int .i64 a1] (.int .i64 ((zk a0 a1).1)) [(ownL 180 3 eSector ((zk a0 a1).2)), .any] := by
 generalize hR : zk a0 a1 = r
 unfold zk at hR
 refine dj (gb := [true, false]) Tryz.func76 Tryz.ntmps76 Tryz.results76 ?_
 intro c hL hc hk
 obtain ⟨hL0, hL1, _⟩ := hL
 have hw0 : a0.length < 9223372036854775808 := Nat.lt_succ_of_le (lens_ownL hL0).1
 have hw1 : ∀ v ∈ a0, bwSector v := fun v hv => Sector_lens v ((lens_ownL hL0).2 v hv)
 clear hL0 hL1
 simp only [adEL, adE, adRL, adR, ownL, encL, sv, List.nil_append, List.append_nil, List.cons_append, List.length_cons, List.length_nil, pars, Nat.zero_add, Nat.reduceAdd] at hk ⊢
 iterate 2 refine rS ?_
 refine AWP.block ?_
 generalize hz1 : loopR (zk_b1 a0 a1) (a0.length - 0) 0 (a1, a0) = z1 at hR
 refine AWP.range (zk_b1 a0 a1) (fun i1 s1 => ⟨[(0, .ref 0 3 0 s1.2.length), (1, .int .i64 s1.1), (5, .int .i64 (i1 : Int))], [.arr 180 3 s1.2.length (fun j => eSector (s1.2.getD j default))]⟩) (fun i1 s1 => s1.2.length = a0.length ∧ s1.1 ≤ 9223372036854775807) (a0.length) 0 (a1, a0) [0] hz1 ot wt sm ?_
 clear hz1
 intro i1 s1 hi1 hW1 hz1
 refine rS ?_
 refine AWP.cond rfl (fun hb => ?_) (fun hb => ?_)
 ·have hlt1 : i1 < a0.length := ot
  rw [loopR_lt hlt1] at hz1; simp only [zk_b1] at hz1
  iterate 7 refine rS ?_
  exact ⟨_, [0], hlt1, by (exact mrg), hz1, sm⟩
 ·obtain rfl : i1 = a0.length := ot
  rw [loopR_ge (Nat.le_refl _)] at hz1; subst hz1; dsimp only at hR
  refine AWP.exit ?_; refine exitTo_here ?_
  refine rS ?_
  refine AWP.ret ?_
  subst hR
  exact es
end N76
def D_zk : List AV → Option (AV × List AV × List Prop)
 | [x0, x1] => some (.int .i64 ((zk (rdL dSector x0) (rdI x1)).1), [(ownL 180 3 eSector ((zk (rdL dSector x0) (rdI x1)).2)), .any], [wO 180 3 eSector dSector x0, wI .i64 x1, (rdI x1) ≤ 9223372036854775807])
 | _ => none
theorem D_zk_ok : OkM Tryz.prog 76 D_zk := by unfold D_zk; exact dm N76.den
end Go.Ab

namespace Go.Ab
open Go Go.Proofs
theorem markInt64S_le (a : List Int) (k : Int) (h : k ≤ 9223372036854775807) : (za a k).1 ≤ 9223372036854775807 := by
 unfold za
 obtain ⟨t, h1, h2⟩ := loopR_total (b := za_b1 a k) (fun _ s => s.1 ≤ 9223372036854775807) (k := a.length - 0) (i := 0) (s := (k, a)) h (by
  intro j u _ _ h
  exact ⟨_, rfl, wrap_le _⟩)
 rw [h1]
 exact h2
theorem markSectorS_le (a : List Sector) (k : Int) (h : k ≤ 9223372036854775807) : (zk a k).1 ≤ 9223372036854775807 := by
 unfold zk
 obtain ⟨t, h1, h2⟩ := loopR_total (b := zk_b1 a k) (fun _ s => s.1 ≤ 9223372036854775807) (k := a.length - 0) (i := 0) (s := (k, a)) h (by
  intro j u _ _ h
  exact ⟨_, rfl, wrap_le _⟩)
 rw [h1]
 exact h2
theorem markSectorS_len (a : List Sector) (k : Int) : (zk a k).2.length = a.length := by
 unfold zk
 obtain ⟨t, h1, h2⟩ := loopR_total (b := zk_b1 a k) (fun _ s => s.2.length = a.length) (k := a.length - 0) (i := 0) (s := (k, a)) rfl (by
  intro j u _ _ h
  exact ⟨_, rfl, by simpa using h⟩)
 rw [h1]
 exact h2
theorem markSectorS_sub (a : List Sector) (k : Int) : subL (zk a k).2 0 a.length = (zk a k).2 := by
 rw [← markSectorS_len a k]; exact subL_all _
end Go.Ab
