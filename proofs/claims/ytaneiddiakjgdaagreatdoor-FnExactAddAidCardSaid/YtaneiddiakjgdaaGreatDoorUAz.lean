/- A part of a proof: walks of functions and lemmas of our own. No conditions. -/
import Derived.Test.YtaneiddiakjgdaaGreatDoorUAl
import Derived.Test.YtaneiddiakjgdaaGreatDoorUAs
import Derived.Test.YtaneiddiakjgdaaGreatDoorUAy
import Derived.Test.YtaneiddiakjgdaaGreatDoorUAv
import Derived.Test.YtaneiddiakjgdaaGreatDoorUAw
import Derived.Test.YtaneiddiakjgdaaGreatDoorUAi
import Derived.Test.YtaneiddiakjgdaaGreatDoorUAt
import Derived.Test.YtaneiddiakjgdaaGreatDoorUAk
import Derived.Test.YtaneiddiakjgdaaGreatDoorUAp
import Derived.Test.YtaneiddiakjgdaaGreatDoorUAn
set_option linter.unusedSectionVars false
set_option linter.unusedVariables false
set_option linter.unusedSimpArgs false
set_option maxHeartbeats 1000000
namespace Go.Ab
open Go Go.Proofs
def zib_b1 (a0 : (List Aid)) (i1 : Nat) (s1 : Unit) : Except (Bool) (Unit) :=
 (bif ((!(zod (a0.getD i1 default))) || (decide (0 < (i1 : Int)) && decide (((a0.getD i1 default).Number) ≤ ((a0.getD ((IntKind.wrap .i64 ((i1 : Int) - 1)).toNat) default).Number)))) then .error false else .ok ())
def zib (a0 : (List Aid)) : Bool :=
 (match loopR (zib_b1 a0) (a0.length - 0) 0 () with | .error e => e | .ok s1 => (zt (a0.length : Int) 24))
namespace N79
theorem DD : DOk Tryz.prog (Go.Ab.DD [(112, dP D_zt), (93, dP D_zod)]) := DD_cons D_zt_ok.e <| DD_cons D_zod_ok.e <| DD_nil _
theorem dn : type_of% (And.intro @D_zt.eq_1 <| @D_zod.eq_1) := by and_intros <;> intros <;> rfl
theorem den (a0 : (List Aid)) (hb0 : a0.length < 1099511627776) (hb1 : ∀ v ∈ a0, bdAid v) : Den Tryz.prog 79 [encL 16 eAid a0] (.bool (zib a0)) := by
 generalize hR : zib a0 = r
 unfold zib at hR
 refine di Tryz.func79 Tryz.ntmps79 Tryz.results79 ?_
 intro c hL hc hk
 obtain ⟨hL0, _⟩ := hL
 have hw0 : a0.length < 9223372036854775808 := Nat.lt_succ_of_le (lens_encL hL0).1
 have hw1 : ∀ v ∈ a0, bwAid v := fun v hv => Aid_lens v ((lens_encL hL0).2 v hv)
 clear hL0
 simp only [pars, Nat.zero_add]
 iterate 2 refine rS ?_
 refine AWP.block ?_
 generalize hz1 : loopR (zib_b1 a0) (a0.length - 0) 0 () = z1 at hR
 refine AWP.range (zib_b1 a0) (fun i1 s1 => ⟨[(0, encL 16 eAid a0), (5, encL 16 eAid a0), (6, .int .i64 (a0.length : Int)), (7, .int .i64 (i1 : Int))], []⟩) (fun i1 s1 => True) (a0.length) 0 () [] hz1 ot wt sm ?_
 clear hz1
 intro i1 s1 hi1 hW1 hz1
 refine rS ?_
 refine AWP.seq ?_
 refine AWP.cond rfl (fun hb => ?_) (fun hb => ?_)
 ·have hlt1 : i1 < a0.length := ot
  rw [loopR_lt hlt1] at hz1; simp only [zib_b1] at hz1
  refine rS ?_
  refine rD 18 ?_
  refine AWP.cond rfl (fun hb => ?_) (fun hb => ?_)
  ·simp only [hb, cond_true] at hz1
   refine rS ?_
   refine AWP.ret ?_
   subst hz1
   dsimp only at hR
   subst hR
   exact es
  ·simp only [hb, cond_false] at hz1
   refine rS ?_
   exact ⟨_, [], hlt1, wt, hz1, sm⟩
 ·obtain rfl : i1 = a0.length := ot
  rw [loopR_ge (Nat.le_refl _)] at hz1; subst hz1; dsimp only at hR
  refine AWP.exit ?_; refine exitTo_here ?_
  refine rS ?_
  refine AWP.ret ?_
  subst hR
  exact es
end N79
def D_zib : DF
 | [x0] => some (.bool (zib (rdL dAid x0)), false, [wL 16 eAid dAid x0, (rdL dAid x0).length < 1099511627776, ∀ v ∈ (rdL dAid x0), bdAid v])
 | _ => none
theorem D_zib_ok : OkD Tryz.prog 79 D_zib := by unfold D_zib; exact dk N79.den
end Go.Ab

namespace Go.Ab
open Go Go.Proofs
def zwb (a0 : Aid) : Bool :=
 (bif (((((!(zh a0.Number 1 9999)) || (!(zpc a0.Name))) || (!(zme a0.At))) || (!(zh a0.Height 0 3000))) || (!(zwd a0.Mark))) then false else (bif (zsd a0.Light) then (((a0.Sectors.length : Int) == 0) && (a0.Intensity == 0)) else (bif (((!(zze a0.Light)) || (!(zh a0.Intensity 1 100000000))) || (!(zkb a0.Sectors))) then false else (bif ((a0.Sectors.length : Int) == 0) then ((a0.Light.Colors.length : Int) == 1) else ((zrb a0.Sectors) == a0.Light.Colors)))))
namespace N87
theorem DD : DOk Tryz.prog (Go.Ab.DD [(137, dP D_zh), (148, dP D_zpc), (149, dP D_zme), (150, dP D_zwd), (151, dP D_zsd), (152, dP D_zze), (153, dP D_zkb), (154, dP D_zrb)]) := DD_cons D_zh_ok.e <| DD_cons D_zpc_ok.e <| DD_cons D_zme_ok.e <| DD_cons D_zwd_ok.e <| DD_cons D_zsd_ok.e <| DD_cons D_zze_ok.e <| DD_cons D_zkb_ok.e <| DD_cons D_zrb_ok.e <| DD_nil _
theorem dn : type_of% (And.intro @D_zh.eq_1 <| And.intro @D_zpc.eq_1 <| And.intro @D_zme.eq_1 <| And.intro @D_zwd.eq_1 <| And.intro @D_zsd.eq_1 <| And.intro @D_zze.eq_1 <| And.intro @D_zkb.eq_1 <| @D_zrb.eq_1) := by and_intros <;> intros <;> rfl
theorem ol : type_of% (@zh.eq_1) := @zh.eq_1
theorem den (a0 : Aid) (hb0 : bdAid a0) : Den Tryz.prog 87 [.ep (eAid a0)] (.bool (zwb a0)) := by
 generalize hR : zwb a0 = r
 unfold zwb at hR
 refine di Tryz.func87 Tryz.ntmps87 Tryz.results87 ?_
 intro c hL hc hk
 obtain ⟨hL0, _⟩ := hL
 have hw0 : bwAid a0 := Aid_lens a0 hL0
 clear hL0
 simp only [pars, Nat.zero_add]
 iterate 2 refine rS ?_
 refine AWP.cond rfl (fun hb => ?_) (fun hb => ?_)
 ·replace hR := ct hR
  refine rS ?_
  refine AWP.ret ?_
  subst hR
  exact es
 ·replace hR := cf hR
  refine rS ?_
  refine AWP.cond rfl (fun hb => ?_) (fun hb => ?_)
  ·replace hR := ct hR
   refine rS ?_
   refine AWP.ret ?_
   subst hR
   exact es
  ·replace hR := cf hR
   refine rS ?_
   refine AWP.cond rfl (fun hb => ?_) (fun hb => ?_)
   ·replace hR := ct hR
    refine rS ?_
    refine AWP.ret ?_
    subst hR
    exact es
   ·replace hR := cf hR
    refine rS ?_
    refine AWP.cond rfl (fun hb => ?_) (fun hb => ?_)
    ·replace hR := ct hR
     refine rS ?_
     refine AWP.ret ?_
     subst hR
     exact es
    ·replace hR := cf hR
     refine rD 11 ?_
     refine AWP.ret ?_
     subst hR
     exact es
end N87
def D_zwb : DF
 | [x0] => some (.bool (zwb (rdP dAid x0)), false, [wP eAid dAid x0, bdAid (rdP dAid x0)])
 | _ => none
theorem D_zwb_ok : OkD Tryz.prog 87 D_zwb := by unfold D_zwb; exact dk N87.den
end Go.Ab

namespace Go.Ab
open Go Go.Proofs
def zo_b1 (a0 : (List Aid)) (i1 : Nat) (s1 : Unit) : Except (Bool) (Unit) :=
 (bif ((!(zwb (a0.getD i1 default))) || (decide (0 < (i1 : Int)) && decide (((a0.getD i1 default).Number) ≤ ((a0.getD ((IntKind.wrap .i64 ((i1 : Int) - 1)).toNat) default).Number)))) then .error false else .ok ())
def zo (a0 : (List Aid)) : Bool :=
 (match loopR (zo_b1 a0) (a0.length - 0) 0 () with | .error e => e | .ok s1 => decide ((a0.length : Int) ≤ 24))
namespace N77
theorem DD : DOk Tryz.prog (Go.Ab.DD [(87, dP D_zwb)]) := DD_cons D_zwb_ok.e <| DD_nil _
theorem dn : type_of% (@D_zwb.eq_1) := by and_intros <;> intros <;> rfl
theorem den (a0 : (List Aid)) (hb0 : a0.length < 1099511627776) (hb1 : ∀ v ∈ a0, bdAid v) : Den Tryz.prog 77 [encL 16 eAid a0] (.bool (zo a0)) := by
 generalize hR : zo a0 = r
 unfold zo at hR
 refine di Tryz.func77 Tryz.ntmps77 Tryz.results77 ?_
 intro c hL hc hk
 obtain ⟨hL0, _⟩ := hL
 have hw0 : a0.length < 9223372036854775808 := Nat.lt_succ_of_le (lens_encL hL0).1
 have hw1 : ∀ v ∈ a0, bwAid v := fun v hv => Aid_lens v ((lens_encL hL0).2 v hv)
 clear hL0
 simp only [pars, Nat.zero_add]
 iterate 2 refine rS ?_
 refine AWP.block ?_
 generalize hz1 : loopR (zo_b1 a0) (a0.length - 0) 0 () = z1 at hR
 refine AWP.range (zo_b1 a0) (fun i1 s1 => ⟨[(0, encL 16 eAid a0), (3, .int .i64 (i1 : Int))], []⟩) (fun i1 s1 => True) (a0.length) 0 () [] hz1 ot wt sm ?_
 clear hz1
 intro i1 s1 hi1 hW1 hz1
 refine rS ?_
 refine AWP.cond rfl (fun hb => ?_) (fun hb => ?_)
 ·have hlt1 : i1 < a0.length := ot
  rw [loopR_lt hlt1] at hz1; simp only [zo_b1] at hz1
  refine rD 23 ?_
  refine AWP.cond rfl (fun hb => ?_) (fun hb => ?_)
  ·simp only [hb, cond_true] at hz1
   refine rS ?_
   refine AWP.ret ?_
   subst hz1
   dsimp only at hR
   subst hR
   exact es
  ·simp only [hb, cond_false] at hz1
   refine rS ?_
   exact ⟨_, [], hlt1, wt, hz1, sm⟩
 ·obtain rfl : i1 = a0.length := ot
  rw [loopR_ge (Nat.le_refl _)] at hz1; subst hz1; dsimp only at hR
  refine AWP.exit ?_; refine exitTo_here ?_
  refine rS ?_
  refine AWP.ret ?_
  subst hR
  exact es
end N77
def D_zo : DF
 | [x0] => some (.bool (zo (rdL dAid x0)), false, [wL 16 eAid dAid x0, (rdL dAid x0).length < 1099511627776, ∀ v ∈ (rdL dAid x0), bdAid v])
 | _ => none
theorem D_zo_ok : OkD Tryz.prog 77 D_zo := by unfold D_zo; exact dk N77.den
end Go.Ab

namespace Go.Ab
open Go Go.Proofs
theorem plain_not (c : Character) (h : zsd c = true) : zoe c = false := by
 unfold zsd at h
 simp only [Bool.and_eq_true, beq_iff_eq] at h
 obtain ⟨⟨⟨⟨h1, h2⟩, h3⟩, h4⟩, h5⟩ := h
 cases c
 simp only at h1 h2 h3 h4 h5
 rename_i k g l cs p
 have hg : g = [] := List.length_eq_zero_iff.1 (by omega)
 subst h1 hg h3 h4 h5
 decide
theorem unlit_eq (a : Aid) : zse a = ((zsd a.Light && ((a.Sectors.length : Int) == 0)) && (a.Intensity == 0)) := by
 unfold zse zgd zsd
 rw [same_int64_dec]
 have : decide (a.Light.Group = []) = ((a.Light.Group.length : Int) == 0) := by
  cases a.Light.Group with
  | nil => rfl
  | cons x l => simp; omega
 rw [this]
theorem validAid_eq (a : Aid) (hl : a.Light.Colors.length < 9223372036854775808) (hs : a.Sectors.length < 9223372036854775807) : zod a = zwb a := by
 unfold zod zwb
 rw [unlit_eq]
 unfold zmf
 rw [validSectors_eq a.Sectors hs, secColors_eq, validMark_eq, name_eq]
 have e1 : zcf a.Number = zh a.Number 1 9999 := rfl
 have e2 : zdf a.At = zme a.At := rfl
 have e3 : zef a.Height = zh a.Height 0 3000 := rfl
 have e4 : zff a.Intensity = zh a.Intensity 1 100000000 := rfl
 rw [e1, e2, e3, e4]
 cases hp : zsd a.Light with
 | true =>
  rw [plain_not _ hp]
  simp only [Bool.not_false, Bool.true_or, cond_true, Bool.true_and, Bool.false_or]
  cases zh a.Number 1 9999 <;> cases zpc a.Name <;> cases zme a.At <;> cases zh a.Height 0 3000 <;> cases zwd a.Mark <;> rfl
 | false =>
  rw [valid_eq a.Light hl]
  simp only [Bool.false_and, Bool.or_false, cond_false]
  cases zh a.Number 1 9999 <;> cases zpc a.Name <;> cases zme a.At <;> cases zh a.Height 0 3000 <;> cases zwd a.Mark <;> rfl
theorem validAids_eq (l : List Aid) (h : ∀ v ∈ l, v.Light.Colors.length < 9223372036854775808 ∧ v.Sectors.length < 9223372036854775807) : zib l = zo l := by
 unfold zib zo
 rw [loopR_same (b := zib_b1 l) (b' := zo_b1 l) (l.length - 0) 0 () (fun j u _ hj => by
  have := bd_getD (p := fun v : Aid => v.Light.Colors.length < 9223372036854775808 ∧ v.Sectors.length < 9223372036854775807) h ⟨by decide, by decide⟩ j
  simp only [zib_b1, zo_b1, validAid_eq _ this.1 this.2])]
 rfl
end Go.Ab

namespace Go.Ab
open Go Go.Proofs
theorem l12Ok_len {a : List Aid} (h : zo a = true) : a.length ≤ 24 := by
 unfold zo at h
 split at h
 ·rename_i e he
  obtain ⟨j, t, _, _, h3⟩ := loopR_error he
  simp only [zo_b1, Bool.cond_eq_ite] at h3
  split at h3
  ·cases h3; cases h
  ·cases h3
 ·have := of_decide_eq_true h; omega
theorem vAids_len {a : List Aid} (h : zib a = true) : a.length ≤ 24 := by
 unfold zib at h
 split at h
 ·rename_i e he
  obtain ⟨j, t, _, _, h3⟩ := loopR_error he
  simp only [zib_b1, Bool.cond_eq_ite] at h3
  split at h3
  ·cases h3; cases h
  ·cases h3
 ·unfold zt at h; have := of_decide_eq_true h; omega
end Go.Ab

namespace Go.Ab
open Go Go.Proofs
theorem own_loop {ρ α : Type} [Inhabited α] (l : List α) (b : Nat → List α → Except ρ (List α)) (hb : ∀ i s, b i s = .ok (s ++ [l.getD i default])) : loopR b (l.length - 0) 0 ([] : List α) = .ok l := by
 obtain ⟨t, h1, h2⟩ := loopR_total (b := b) (fun i s => s = l.take i) (k := l.length - 0) (i := 0) (s := []) (by simp) (by
  intro j u _ hj h
  subst h
  exact ⟨_, hb j _, (take_succ_getD l j (by omega)).symm⟩)
 rw [h1, h2]
 simp
theorem copyAid_id (a : Aid) : zec a = a := by simp [zec, zgf, zhf]
theorem copyAids_id (l : List Aid) : zvc l = l := by
 unfold zvc
 rw [show (List.replicate 0 (default : Aid)) = [] from rfl, own_loop l (zvc_b1 l) (fun i s => by simp only [zvc_b1, copyAid_id])]
theorem ownAid_id (a : Aid) : zgc a = a := by simp [zgc, zlf, zkf]
theorem ownAids_id (l : List Aid) : zsc l = l := by
 unfold zsc
 rw [own_loop l (zsc_b1 l) (fun i s => by simp only [zsc_b1, ownAid_id])]
end Go.Ab

namespace Go.Ab
open Go Go.Proofs
def ztb (a0 : (List Aid)) (a1 : Aid) : ((List Aid) × Int) :=
 (bif ((!(zib a0)) || (!(zod a1))) then ([], 1) else (bif (zj a0 a1.Number).2 then ([], 4) else (bif ((a0.length : Int) == 24) then ([], 5) else (((zee (zvc a0) ((zj a0 a1.Number).1) [zec a1])), 0))))
namespace N34
theorem DD : DOk Tryz.prog (Go.Ab.DD [(79, dP D_zib), (81, dP D_zec), (93, dP D_zod), (94, dP D_zj), (95, dM [true, false, true] D_zee), (96, dP D_zvc)]) := DD_cons D_zib_ok.e <| DD_cons D_zec_ok.e <| DD_cons D_zod_ok.e <| DD_cons D_zj_ok.e <| DD_cons D_zee_ok.e <| DD_cons D_zvc_ok.e <| DD_nil _
theorem dn : type_of% (And.intro @D_zib.eq_1 <| And.intro @D_zec.eq_1 <| And.intro @D_zod.eq_1 <| And.intro @D_zj.eq_1 <| And.intro @D_zee.eq_1 <| @D_zvc.eq_1) := by and_intros <;> intros <;> rfl
theorem ol : type_of% (@copyAids_id) := @copyAids_id
theorem gr {p : Prop} (h : p := by (grind [vAids_len, zj_ix]); first | done | fail) : p := h
theorem o1 {p : Prop} (h : p := by (first | (have h9 := vAids_len (a := a0) (by simp_all); simp only [ob, ln, ol] at *; omega)); first | done | fail) : p := h
theorem den (a0 : (List Aid)) (a1 : Aid) (hb0 : a0.length < 1099511627776) (hb1 : ∀ v ∈ a0, bdAid v) (hb2 : bdAid a1) : Den Tryz.prog 34 [encL 16 eAid a0, .agg (eAid a1)] (.tup [ownL 63 16 eAidO ((ztb a0 a1).1), .int .i64 ((ztb a0 a1).2)]) := by
 generalize hR : ztb a0 a1 = r
 unfold ztb at hR
 refine di Tryz.func34 Tryz.ntmps34 Tryz.results34 ?_
 intro c hL hc hk
 obtain ⟨hL0, hL1, _⟩ := hL
 have hw0 : a0.length < 9223372036854775808 := Nat.lt_succ_of_le (lens_encL hL0).1
 have hw1 : ∀ v ∈ a0, bwAid v := fun v hv => Aid_lens v ((lens_encL hL0).2 v hv)
 have hw2 : bwAid a1 := Aid_lens a1 hL1
 clear hL0 hL1
 simp only [pars, Nat.zero_add]
 have hix := zj_ix a0 a1.Number hw0
 iterate 2 refine rS ?_
 refine AWP.cond rfl (fun hb => ?_) (fun hb => ?_)
 ·replace hR := ct hR
  refine rS ?_
  refine AWP.ret ?_
  subst hR
  exact es
 ·replace hR := cf hR
  iterate 2 refine rS ?_
  refine AWP.cond rfl (fun hb => ?_) (fun hb => ?_)
  ·replace hR := ct hR
   refine rS ?_
   refine AWP.ret ?_
   subst hR
   exact es
  ·replace hR := cf hR
   refine rS ?_
   refine AWP.cond rfl (fun hb => ?_) (fun hb => ?_)
   ·replace hR := ct hR
    refine rS ?_
    refine AWP.ret ?_
    subst hR
    exact es
   ·replace hR := cf hR
    refine AWP.skip ?_
    refine AWP.seq ?_
    refine AWP.regP mixed G_ok DD hc 6 [0, 2, 3] (.alt 1 [] [2, 3] (.alt 4 [] [2] (.alt 5 [] [2] .leaf .stop) .stop) .stop) (by kernel_rfl) (by kernel_rfl) (by kernel_rfl) (fun K hK => ?_); simp only [rootP, runN, runP, recheck, nthO, ea, absV, absVL, cput, gv, sv, dn, reduceCtorEq, reduceIte, Nat.reduceBEq, Nat.reduceAdd, Nat.reduceEqDiff, Nat.reduceLT, Nat.reduceLeDiff, Nat.reduceMul, Nat.reduceSub, BEq.rfl, beq_self_eq_true, Int.reduceToNat]
    repeat' apply And.intro
    all_goals first | refine hK _ ?_ | exact ot
    all_goals clear hK K
    refine AWP.ret ?_
    subst hR
    exact es
end N34
def D_ztb : DF
 | [x0, x1] => some (.tup [ownL 63 16 eAidO ((ztb (rdL dAid x0) (rdG dAid x1)).1), .int .i64 ((ztb (rdL dAid x0) (rdG dAid x1)).2)], false, [wL 16 eAid dAid x0, wG eAid dAid x1, (rdL dAid x0).length < 1099511627776, ∀ v ∈ (rdL dAid x0), bdAid v, bdAid (rdG dAid x1)])
 | _ => none
theorem D_ztb_ok : OkD Tryz.prog 34 D_ztb := by unfold D_ztb; exact dk N34.den
end Go.Ab

namespace Go.Ab
open Go Go.Proofs
def zzb_b1 (a0 : (List Aid)) (a1 : Aid) (s1 : Int) : Except (Sum (((List Aid) × Int)) (Int)) (Int) :=
 (bif (decide (s1 < (a0.length : Int)) && decide (((a0.getD ((s1).toNat) default).Number) < a1.Number)) then .ok (IntKind.wrap .i64 (s1 + 1)) else .error (.inr s1))
def zzb (a0 : (List Aid)) (a1 : Aid) : ((List Aid) × Int) :=
 (match loopW (zzb_b1 a0 a1) ((a0.length - ((0 : Int)).toNat) + 1) 0 with | .error (.inl e) => e | .error (.inr s1) => (bif (decide (s1 < (a0.length : Int)) && (((a0.getD ((s1).toNat) default).Number) == a1.Number)) then ([], 4) else (bif ((a0.length : Int) == 24) then ([], 5) else (((zsc (subL a0 0 ((s1).toNat))) ++ [zgc a1]) ++ (zsc (subL a0 ((s1).toNat) (a0.length - (s1).toNat))), 0))) | .ok _ => default)
namespace N88
theorem DD : DOk Tryz.prog (Go.Ab.DD [(106, dP D_zgc), (155, dP D_zsc)]) := DD_cons D_zgc_ok.e <| DD_cons D_zsc_ok.e <| DD_nil _
theorem dn : type_of% (And.intro @D_zgc.eq_1 <| @D_zsc.eq_1) := by and_intros <;> intros <;> rfl
theorem ol : type_of% (@ownAids_id) := @ownAids_id
theorem den (a0 : (List Aid)) (a1 : Aid) (hb0 : a0.length < 1099511627776) (hb1 : ∀ v ∈ a0, bdAid v) (hb2 : bdAid a1) (hp0 : a0.length ≤ 1073741824) : Den Tryz.prog 88 [encL 16 eAid a0, .ep (eAid a1)] (.tup [ownL 63 16 eAidO ((zzb a0 a1).1), .int .i64 ((zzb a0 a1).2)]) := by
 generalize hR : zzb a0 a1 = r
 unfold zzb at hR
 refine di Tryz.func88 Tryz.ntmps88 Tryz.results88 ?_
 intro c hL hc hk
 obtain ⟨hL0, hL1, _⟩ := hL
 have hw0 : a0.length < 9223372036854775808 := Nat.lt_succ_of_le (lens_encL hL0).1
 have hw1 : ∀ v ∈ a0, bwAid v := fun v hv => Aid_lens v ((lens_encL hL0).2 v hv)
 have hw2 : bwAid a1 := Aid_lens a1 hL1
 clear hL0 hL1
 simp only [pars, Nat.zero_add]
 iterate 2 refine rS ?_
 refine AWP.seq ?_
 refine AWP.block ?_
 generalize hz1 : loopW (zzb_b1 a0 a1) ((a0.length - ((0 : Int)).toNat) + 1) 0 = z1 at hR
 refine AWP.whileW (zzb_b1 a0 a1) (fun s1 => ⟨[(0, encL 16 eAid a0), (1, .ep (eAid a1)), (6, .int .i64 s1)], []⟩) (fun s1 => 0 ≤ s1 ∧ s1 ≤ a0.length) (fun s1 => a0.length - (s1).toNat) ((a0.length - ((0 : Int)).toNat) + 1) 0 [] hz1 m0 wt sm ?_
 clear hz1
 intro s1 k1 hW1 hm1 hz1
 simp only [zzb_b1] at hz1
 refine rD 16 ?_
 refine AWP.cond rfl (fun hb => ?_) (fun hb => ?_)
 ·simp only [hb, cond_true] at hz1
  refine rS ?_
  exact ⟨_, [], ms, wt, hz1, sm⟩
 ·simp only [hb, cond_false] at hz1
  refine AWP.exit ?_
  refine exitTo_here ?_
  subst hz1; dsimp only at hR
  refine rD 16 ?_
  refine AWP.cond rfl (fun hb => ?_) (fun hb => ?_)
  ·replace hR := ct hR
   refine rS ?_
   refine AWP.ret ?_
   subst hR
   exact es
  ·replace hR := cf hR
   refine rS ?_
   refine AWP.cond rfl (fun hb => ?_) (fun hb => ?_)
   ·replace hR := ct hR
    refine rS ?_
    refine AWP.ret ?_
    subst hR
    exact es
   ·replace hR := cf hR
    iterate 3 refine rS ?_
    refine AWP.ret ?_
    subst hR
    exact es
end N88
def D_zzb : DF
 | [x0, x1] => some (.tup [ownL 63 16 eAidO ((zzb (rdL dAid x0) (rdP dAid x1)).1), .int .i64 ((zzb (rdL dAid x0) (rdP dAid x1)).2)], false, [wL 16 eAid dAid x0, wP eAid dAid x1, (rdL dAid x0).length < 1099511627776, ∀ v ∈ (rdL dAid x0), bdAid v, bdAid (rdP dAid x1), (rdL dAid x0).length ≤ 1073741824])
 | _ => none
theorem D_zzb_ok : OkD Tryz.prog 88 D_zzb := by unfold D_zzb; exact dk N88.den
end Go.Ab

namespace Go.Ab
open Go Go.Proofs
def zlb (a0 : (List Aid)) (a1 : Aid) : ((List Aid) × Int) :=
 (bif ((!(zo a0)) || (!(zwb a1))) then ([], 1) else ((zzb a0 a1).1, (zzb a0 a1).2))
namespace N32
theorem DD : DOk Tryz.prog (Go.Ab.DD [(77, dP D_zo), (87, dP D_zwb), (88, dP D_zzb)]) := DD_cons D_zo_ok.e <| DD_cons D_zwb_ok.e <| DD_cons D_zzb_ok.e <| DD_nil _
theorem dn : type_of% (And.intro @D_zo.eq_1 <| And.intro @D_zwb.eq_1 <| @D_zzb.eq_1) := by and_intros <;> intros <;> rfl
theorem gr {p : Prop} (h : p := by (grind [l12Ok_len]); first | done | fail) : p := h
theorem den (a0 : (List Aid)) (a1 : Aid) (hb0 : a0.length < 1099511627776) (hb1 : ∀ v ∈ a0, bdAid v) (hb2 : bdAid a1) : Den Tryz.prog 32 [encL 16 eAid a0, .agg (eAid a1)] (.tup [ownL 63 16 eAidO ((zlb a0 a1).1), .int .i64 ((zlb a0 a1).2)]) := by
 generalize hR : zlb a0 a1 = r
 unfold zlb at hR
 refine di Tryz.func32 Tryz.ntmps32 Tryz.results32 ?_
 intro c hL hc hk
 obtain ⟨hL0, hL1, _⟩ := hL
 have hw0 : a0.length < 9223372036854775808 := Nat.lt_succ_of_le (lens_encL hL0).1
 have hw1 : ∀ v ∈ a0, bwAid v := fun v hv => Aid_lens v ((lens_encL hL0).2 v hv)
 have hw2 : bwAid a1 := Aid_lens a1 hL1
 clear hL0 hL1
 simp only [pars, Nat.zero_add]
 iterate 2 refine rS ?_
 refine AWP.cond rfl (fun hb => ?_) (fun hb => ?_)
 ·replace hR := ct hR
  refine rS ?_
  refine AWP.ret ?_
  subst hR
  exact es
 ·replace hR := cf hR
  refine rS ?_
  refine AWP.ret ?_
  subst hR
  exact es
end N32
def D_zlb : DF
 | [x0, x1] => some (.tup [ownL 63 16 eAidO ((zlb (rdL dAid x0) (rdG dAid x1)).1), .int .i64 ((zlb (rdL dAid x0) (rdG dAid x1)).2)], false, [wL 16 eAid dAid x0, wG eAid dAid x1, (rdL dAid x0).length < 1099511627776, ∀ v ∈ (rdL dAid x0), bdAid v, bdAid (rdG dAid x1)])
 | _ => none
theorem D_zlb_ok : OkD Tryz.prog 32 D_zlb := by unfold D_zlb; exact dk N32.den
end Go.Ab

namespace Go.Ab
open Go Go.Proofs
def aidL (v : Aid) : Prop := v.Light.Colors.length < 9223372036854775808 ∧ v.Sectors.length < 9223372036854775807
theorem subL_take {α : Type} [Inhabited α] (l : List α) (n : Nat) (h : n ≤ l.length) : subL l 0 n = l.take n := by
 apply getD_ext
 ·simp [subL, h]
 ·intro i hi
  have hi : i < n := by simpa [subL] using hi
  simp only [subL, Nat.zero_add]
  rw [List.getD_eq_getElem?_getD, List.getD_eq_getElem?_getD, List.getElem?_map, List.getElem?_range hi, List.getElem?_take, if_pos hi]
  simp [List.getD_eq_getElem?_getD]
theorem subL_drop {α : Type} [Inhabited α] (l : List α) (n : Nat) (h : n ≤ l.length) : subL l n (l.length - n) = l.drop n := by
 apply getD_ext
 ·simp [subL]
 ·intro i hi
  have hi : i < l.length - n := by simpa [subL] using hi
  simp only [subL]
  rw [List.getD_eq_getElem?_getD, List.getD_eq_getElem?_getD, List.getElem?_map, List.getElem?_range hi, List.getElem?_drop]
  simp [List.getD_eq_getElem?_getD]
theorem put_upto (l : List Aid) (a : Aid) (hl : l.length < 9223372036854775808) : loopW (zzb_b1 l a) ((l.length - ((0 : Int)).toNat) + 1) 0 = .error (.inr (upto l a.Number : Int)) := by
 have := up_loop l a.Number hl (zzb_b1 l a) (fun s => rfl) l [] (l.length - (0 : Int).toNat + 1) rfl (by simp)
 simp only [List.length_nil, Nat.zero_add] at this
 have e0 : ((0 : Nat) : Int) = 0 := rfl
 simp only [e0] at this
 exact this
def putA (l : List Aid) (a : Aid) : List Aid := l.take (upto l a.Number) ++ [a] ++ l.drop (upto l a.Number)
theorem l12Put_eq (l : List Aid) (a : Aid) (hl : l.length < 9223372036854775808) :
  zzb l a = bif (decide (upto l a.Number < l.length) && ((l.getD (upto l a.Number) default).Number == a.Number)) then ([], 4) else (bif ((l.length : Int) == 24) then ([], 5) else (putA l a, 0)) := by
 unfold zzb
 rw [put_upto l a hl]
 have hu := upto_le l a.Number
 have e : (decide ((upto l a.Number : Int) < (l.length : Int)) && ((l.getD ((upto l a.Number : Int)).toNat default).Number == a.Number)) = (decide (upto l a.Number < l.length) && ((l.getD (upto l a.Number) default).Number == a.Number)) := by
  rw [Int.toNat_natCast]
  congr 1
  exact decide_eq_decide.2 (by omega)
 simp only [ownAids_id, ownAid_id]
 rw [e]
 simp only [Int.toNat_natCast]
 rw [subL_take l _ hu, subL_drop l _ hu]
 rfl
theorem addAid_eq (l : List Aid) (a : Aid) (hl : l.length < 9223372036854775808) (hv : ∀ v ∈ l, aidL v) (ha : aidL a) : ztb l a = zlb l a := by
 unfold ztb zlb
 rw [validAids_eq l hv, validAid_eq a ha.1 ha.2]
 cases hb : ((!(zo l)) || (!(zwb a))) with
 | true => rfl
 | false =>
  simp only [cond_false]
  rw [l12Put_eq l a hl, aidOf_eq l _ hl]
  simp only [copyAids_id, copyAid_id]
  unfold zee
  simp only [Int.toNat_natCast]
  cases (decide (upto l a.Number < l.length) && ((l.getD (upto l a.Number) default).Number == a.Number)) with
  | true => rfl
  | false =>
   simp only [cond_false]
   cases ((l.length : Int) == 24) <;> rfl
theorem addAid_all (l : List Aid) (a : Aid) (P : Aid → Prop) (hl : l.length < 9223372036854775808) (hv : ∀ v ∈ l, P v) (ha : P a) : (∀ v ∈ (zlb l a).1, P v) ∧ (zlb l a).1.length ≤ l.length + 1 := by
 unfold zlb
 cases hb : ((!(zo l)) || (!(zwb a))) with
 | true => exact ⟨fun v hv => by simp at hv, by simp⟩
 | false =>
  simp only [cond_false]
  rw [l12Put_eq l a hl]
  cases (decide (upto l a.Number < l.length) && ((l.getD (upto l a.Number) default).Number == a.Number)) with
  | true => exact ⟨fun v hv => by simp at hv, by simp⟩
  | false =>
   simp only [cond_false]
   cases ((l.length : Int) == 24) with
   | true => exact ⟨fun v hv => by simp at hv, by simp⟩
   | false =>
    simp only [cond_false, putA]
    refine ⟨fun v h => ?_, by simp; omega⟩
    simp only [List.mem_append, List.mem_singleton] at h
    rcases h with (h | h) | h
    ·exact hv v (List.mem_of_mem_take h)
    ·subst h; exact ha
    ·exact hv v (List.mem_of_mem_drop h)
end Go.Ab

namespace Go.Ab
open Go Go.Proofs
def zd_b1 (a0 : (List Int)) (a1 : Int) (i1 : Nat) (s1 : Int × List Int) : Except (Int × (List Int)) (Int × List Int) :=
 .ok (IntKind.wrap .i64 (s1.1 + 1), s1.2.set i1 s1.1)
def zd (a0 : (List Int)) (a1 : Int) : Int × (List Int) :=
 (match loopR (zd_b1 a0 a1) (a0.length - 0) 0 (a1, a0) with | .error e => e | .ok s1 => (s1.1, s1.2))
namespace N20
theorem DD : DOk Tryz.prog (Go.Ab.DD []) := DD_nil _
theorem den (a0 : (List Int)) (a1 : Int)  : DenM Tryz.prog 20 [ownL 2 1 eIi64 a0, .int .i64 a1] (.int .i64 ((zd a0 a1).1)) [(ownL 2 1 eIi64 ((zd a0 a1).2)), .any] := by
 generalize hR : zd a0 a1 = r
 unfold zd at hR
 refine dj (gb := [true, false]) Tryz.func20 Tryz.ntmps20 Tryz.results20 ?_
 intro c hL hc hk
 obtain ⟨hL0, hL1, _⟩ := hL
 have hw0 : a0.length < 9223372036854775808 := Nat.lt_succ_of_le (lens_ownL hL0).1
 clear hL0 hL1
 simp only [adEL, adE, adRL, adR, ownL, encL, sv, List.nil_append, List.append_nil, List.cons_append, List.length_cons, List.length_nil, pars, Nat.zero_add, Nat.reduceAdd] at hk ⊢
 iterate 2 refine rS ?_
 refine AWP.block ?_
 generalize hz1 : loopR (zd_b1 a0 a1) (a0.length - 0) 0 (a1, a0) = z1 at hR
 refine AWP.range (zd_b1 a0 a1) (fun i1 s1 => ⟨[(0, .ref 0 1 0 s1.2.length), (1, .int .i64 s1.1), (5, .int .i64 (i1 : Int))], [.arr 2 1 s1.2.length (fun j => eIi64 (s1.2.getD j default))]⟩) (fun i1 s1 => s1.2.length = a0.length) (a0.length) 0 (a1, a0) [0] hz1 ot wt sm ?_
 clear hz1
 intro i1 s1 hi1 hW1 hz1
 refine rS ?_
 refine AWP.cond rfl (fun hb => ?_) (fun hb => ?_)
 ·have hlt1 : i1 < a0.length := ot
  rw [loopR_lt hlt1] at hz1; simp only [zd_b1] at hz1
  iterate 3 refine rS ?_
  exact ⟨_, [0], hlt1, wt, hz1, sm⟩
 ·obtain rfl : i1 = a0.length := ot
  rw [loopR_ge (Nat.le_refl _)] at hz1; subst hz1; dsimp only at hR
  refine AWP.exit ?_; refine exitTo_here ?_
  refine rS ?_
  refine AWP.ret ?_
  subst hR
  exact es
end N20
def D_zd : List AV → Option (AV × List AV × List Prop)
 | [x0, x1] => some (.int .i64 ((zd (rdL dIi64 x0) (rdI x1)).1), [(ownL 2 1 eIi64 ((zd (rdL dIi64 x0) (rdI x1)).2)), .any], [wO 2 1 eIi64 dIi64 x0, wI .i64 x1])
 | _ => none
theorem D_zd_ok : OkM Tryz.prog 20 D_zd := by unfold D_zd; exact dm N20.den
end Go.Ab

namespace Go.Ab
open Go Go.Proofs
def zn_b1 (a0 : Int) (s1 : Int × List UInt8) : Except (Sum ((List UInt8)) (Int × List UInt8)) (Int × List UInt8) :=
 (bif decide (0 < s1.1) then .ok (IntKind.wrap .i64 (s1.1.tdiv 10), (([IntKind.wrap .u8 (IntKind.wrap .i64 (48 + (s1.1.tmod 10)))] : List Int).map fun z => UInt8.ofNat z.toNat) ++ s1.2) else .error (.inr (s1.1, s1.2)))
def zn (a0 : Int) : (List UInt8) :=
 (bif decide (a0 ≤ 0) then [109, 48] else (match loopW (zn_b1 a0) (((a0).toNat) + 1) (a0, []) with | .error (.inl e) => e | .error (.inr s1) => [109] ++ s1.2 | .ok _ => default))
namespace N75
theorem DD : DOk Tryz.prog (Go.Ab.DD []) := DD_nil _
theorem den (a0 : Int) (hp0 : a0 ≤ 9223372036854775807) : Den Tryz.prog 75 [.int .i64 a0] (.str (zn a0)) := by
 generalize hR : zn a0 = r
 unfold zn at hR
 refine di Tryz.func75 Tryz.ntmps75 Tryz.results75 ?_
 intro c hL hc hk
 clear hL
 simp only [pars, Nat.zero_add]
 iterate 2 refine rS ?_
 refine AWP.cond rfl (fun hb => ?_) (fun hb => ?_)
 ·replace hR := ct hR
  refine rS ?_
  refine AWP.ret ?_
  subst hR
  exact es
 ·replace hR := cf hR
  refine rS ?_
  refine AWP.seq ?_
  refine AWP.block ?_
  generalize hz1 : loopW (zn_b1 a0) (((a0).toNat) + 1) (a0, []) = z1 at hR
  refine AWP.whileW (zn_b1 a0) (fun s1 => ⟨[(0, .int .i64 s1.1), (3, .str s1.2)], []⟩) (fun s1 => 0 ≤ s1.1 ∧ s1.2.length ≤ 19 ∧ s1.1 * 10 ^ s1.2.length ≤ a0) (fun s1 => (s1.1).toNat) (((a0).toNat) + 1) (a0, []) [] hz1 m0 (by (refine ⟨by have := of_decide_eq_false hb; simp only; omega, by simp, by simp⟩)) sm ?_
  clear hz1
  intro s1 k1 hW1 hm1 hz1
  simp only [zn_b1] at hz1
  refine rS ?_
  refine AWP.cond rfl (fun hb => ?_) (fun hb => ?_)
  ·simp only [hb, cond_true] at hz1
   iterate 2 refine rS ?_
   exact ⟨_, [], by (exact Nat.lt_of_lt_of_le (digd hW1 hb hp0) (Nat.le_of_lt_succ hm1)), by (exact digw rfl hW1 hb hp0), hz1, sm⟩
  ·simp only [hb, cond_false] at hz1
   refine AWP.exit ?_
   refine exitTo_here ?_
   subst hz1; dsimp only at hR
   refine rS ?_
   refine AWP.ret ?_
   subst hR
   exact es
end N75
def D_zn : DF
 | [x0] => some (.str (zn (rdI x0)), false, [wI .i64 x0, (rdI x0) ≤ 9223372036854775807])
 | _ => none
theorem D_zn_ok : OkD Tryz.prog 75 D_zn := by unfold D_zn; exact dk N75.den
end Go.Ab

namespace Go.Ab
open Go Go.Proofs
def zp_b1 (a0 : (List Sector)) (a1 : Int) (i1 : Nat) (s1 : Int × List Sector) : Except (Int × (List Sector)) (Int × List Sector) :=
 .ok (IntKind.wrap .i64 ((IntKind.wrap .i64 ((IntKind.wrap .i64 (s1.1 + 1)) + 1)) + 1), s1.2.set i1 ({ From := s1.1, To := IntKind.wrap .i64 (s1.1 + 1), Color := (zn (IntKind.wrap .i64 ((IntKind.wrap .i64 (s1.1 + 1)) + 1))) : Sector }))
def zp (a0 : (List Sector)) (a1 : Int) : Int × (List Sector) :=
 (match loopR (zp_b1 a0 a1) (a0.length - 0) 0 (a1, a0) with | .error e => e | .ok s1 => (s1.1, s1.2))
namespace N76
theorem DD : DOk Tryz.prog (Go.Ab.DD [(75, dP D_zn)]) := DD_cons D_zn_ok.e <| DD_nil _
theorem dn : type_of% (@D_zn.eq_1) := by and_intros <;> intros <;> rfl
theorem den (a0 : (List Sector)) (a1 : Int) (hp0 : a1 ≤ 9223372036854775807) : DenM Tryz.prog 76 [ownL 180 3 eSector a0, .int .i64 a1] (.int .i64 ((zp a0 a1).1)) [(ownL 180 3 eSector ((zp a0 a1).2)), .any] := by
 generalize hR : zp a0 a1 = r
 unfold zp at hR
 refine dj (gb := [true, false]) Tryz.func76 Tryz.ntmps76 Tryz.results76 ?_
 intro c hL hc hk
 obtain ⟨hL0, hL1, _⟩ := hL
 have hw0 : a0.length < 9223372036854775808 := Nat.lt_succ_of_le (lens_ownL hL0).1
 have hw1 : ∀ v ∈ a0, bwSector v := fun v hv => Sector_lens v ((lens_ownL hL0).2 v hv)
 clear hL0 hL1
 simp only [adEL, adE, adRL, adR, ownL, encL, sv, List.nil_append, List.append_nil, List.cons_append, List.length_cons, List.length_nil, pars, Nat.zero_add, Nat.reduceAdd] at hk ⊢
 iterate 2 refine rS ?_
 refine AWP.block ?_
 generalize hz1 : loopR (zp_b1 a0 a1) (a0.length - 0) 0 (a1, a0) = z1 at hR
 refine AWP.range (zp_b1 a0 a1) (fun i1 s1 => ⟨[(0, .ref 0 3 0 s1.2.length), (1, .int .i64 s1.1), (5, .int .i64 (i1 : Int))], [.arr 180 3 s1.2.length (fun j => eSector (s1.2.getD j default))]⟩) (fun i1 s1 => s1.2.length = a0.length ∧ s1.1 ≤ 9223372036854775807) (a0.length) 0 (a1, a0) [0] hz1 ot wt sm ?_
 clear hz1
 intro i1 s1 hi1 hW1 hz1
 refine rS ?_
 refine AWP.cond rfl (fun hb => ?_) (fun hb => ?_)
 ·have hlt1 : i1 < a0.length := ot
  rw [loopR_lt hlt1] at hz1; simp only [zp_b1] at hz1
  iterate 7 refine rS ?_
  exact ⟨_, [0], hlt1, by (exact mrg), hz1, sm⟩
 ·obtain rfl : i1 = a0.length := ot
  rw [loopR_ge (Nat.le_refl _)] at hz1; subst hz1; dsimp only at hR
  refine AWP.exit ?_; refine exitTo_here ?_
  refine rS ?_
  refine AWP.ret ?_
  subst hR
  exact es
end N76
def D_zp : List AV → Option (AV × List AV × List Prop)
 | [x0, x1] => some (.int .i64 ((zp (rdL dSector x0) (rdI x1)).1), [(ownL 180 3 eSector ((zp (rdL dSector x0) (rdI x1)).2)), .any], [wO 180 3 eSector dSector x0, wI .i64 x1, (rdI x1) ≤ 9223372036854775807])
 | _ => none
theorem D_zp_ok : OkM Tryz.prog 76 D_zp := by unfold D_zp; exact dm N76.den
end Go.Ab

namespace Go.Ab
open Go Go.Proofs
theorem markInt64S_le (a : List Int) (k : Int) (h : k ≤ 9223372036854775807) : (zd a k).1 ≤ 9223372036854775807 := by
 unfold zd
 obtain ⟨t, h1, h2⟩ := loopR_total (b := zd_b1 a k) (fun _ s => s.1 ≤ 9223372036854775807) (k := a.length - 0) (i := 0) (s := (k, a)) h (by
  intro j u _ _ h
  exact ⟨_, rfl, wrap_le _⟩)
 rw [h1]
 exact h2
theorem markSectorS_le (a : List Sector) (k : Int) (h : k ≤ 9223372036854775807) : (zp a k).1 ≤ 9223372036854775807 := by
 unfold zp
 obtain ⟨t, h1, h2⟩ := loopR_total (b := zp_b1 a k) (fun _ s => s.1 ≤ 9223372036854775807) (k := a.length - 0) (i := 0) (s := (k, a)) h (by
  intro j u _ _ h
  exact ⟨_, rfl, wrap_le _⟩)
 rw [h1]
 exact h2
theorem markSectorS_len (a : List Sector) (k : Int) : (zp a k).2.length = a.length := by
 unfold zp
 obtain ⟨t, h1, h2⟩ := loopR_total (b := zp_b1 a k) (fun _ s => s.2.length = a.length) (k := a.length - 0) (i := 0) (s := (k, a)) rfl (by
  intro j u _ _ h
  exact ⟨_, rfl, by simpa using h⟩)
 rw [h1]
 exact h2
theorem markSectorS_sub (a : List Sector) (k : Int) : subL (zp a k).2 0 a.length = (zp a k).2 := by
 rw [← markSectorS_len a k]; exact subL_all _
end Go.Ab

namespace Go.Ab
open Go Go.Proofs
def zu_b1 (a0 : (List Int)) (a1 : Int) (i1 : Nat) (s1 : Int) : Except (Int) (Int) :=
 (bif ((a0.getD i1 default) != s1) then .error (-1) else .ok (IntKind.wrap .i64 (s1 + 1)))
def zu (a0 : (List Int)) (a1 : Int) : Int :=
 (match loopR (zu_b1 a0 a1) (a0.length - 0) 0 a1 with | .error e => e | .ok s1 => s1)
namespace N21
theorem DD : DOk Tryz.prog (Go.Ab.DD []) := DD_nil _
theorem den (a0 : (List Int)) (a1 : Int)  : Den Tryz.prog 21 [encL 1 eIi64 a0, .int .i64 a1] (.int .i64 (zu a0 a1)) := by
 generalize hR : zu a0 a1 = r
 unfold zu at hR
 refine di Tryz.func21 Tryz.ntmps21 Tryz.results21 ?_
 intro c hL hc hk
 obtain ⟨hL0, hL1, _⟩ := hL
 have hw0 : a0.length < 9223372036854775808 := Nat.lt_succ_of_le (lens_encL hL0).1
 clear hL0 hL1
 simp only [pars, Nat.zero_add]
 iterate 2 refine rS ?_
 refine AWP.block ?_
 generalize hz1 : loopR (zu_b1 a0 a1) (a0.length - 0) 0 a1 = z1 at hR
 refine AWP.range (zu_b1 a0 a1) (fun i1 s1 => ⟨[(0, encL 1 eIi64 a0), (1, .int .i64 s1), (5, .int .i64 (i1 : Int))], []⟩) (fun i1 s1 => True) (a0.length) 0 a1 [] hz1 ot wt sm ?_
 clear hz1
 intro i1 s1 hi1 hW1 hz1
 refine rS ?_
 refine AWP.cond rfl (fun hb => ?_) (fun hb => ?_)
 ·have hlt1 : i1 < a0.length := ot
  rw [loopR_lt hlt1] at hz1; simp only [zu_b1] at hz1
  refine rS ?_
  refine AWP.cond rfl (fun hb => ?_) (fun hb => ?_)
  ·simp only [hb, cond_true] at hz1
   refine rS ?_
   refine AWP.ret ?_
   subst hz1
   dsimp only at hR
   subst hR
   exact es
  ·simp only [hb, cond_false] at hz1
   iterate 2 refine rS ?_
   exact ⟨_, [], hlt1, wt, hz1, sm⟩
 ·obtain rfl : i1 = a0.length := ot
  rw [loopR_ge (Nat.le_refl _)] at hz1; subst hz1; dsimp only at hR
  refine AWP.exit ?_; refine exitTo_here ?_
  refine rS ?_
  refine AWP.ret ?_
  subst hR
  exact es
end N21
def D_zu : DF
 | [x0, x1] => some (.int .i64 (zu (rdL dIi64 x0) (rdI x1)), false, [wL 1 eIi64 dIi64 x0, wI .i64 x1])
 | _ => none
theorem D_zu_ok : OkD Tryz.prog 21 D_zu := by unfold D_zu; exact dk N21.den
end Go.Ab

namespace Go.Ab
open Go Go.Proofs
def zsb_b1 (a0 : (List Sector)) (a1 : Int) (i1 : Nat) (s1 : Int) : Except (Int) (Int) :=
 (bif (((a0.getD i1 default).From) != s1) then .error (-1) else (bif (((a0.getD i1 default).To) != (IntKind.wrap .i64 (s1 + 1))) then .error (-1) else (bif (((a0.getD i1 default).Color) != (zn (IntKind.wrap .i64 ((IntKind.wrap .i64 (s1 + 1)) + 1)))) then .error (-1) else .ok (IntKind.wrap .i64 ((IntKind.wrap .i64 ((IntKind.wrap .i64 (s1 + 1)) + 1)) + 1)))))
def zsb (a0 : (List Sector)) (a1 : Int) : Int :=
 (match loopR (zsb_b1 a0 a1) (a0.length - 0) 0 a1 with | .error e => e | .ok s1 => s1)
namespace N83
theorem DD : DOk Tryz.prog (Go.Ab.DD [(75, dP D_zn)]) := DD_cons D_zn_ok.e <| DD_nil _
theorem dn : type_of% (@D_zn.eq_1) := by and_intros <;> intros <;> rfl
theorem den (a0 : (List Sector)) (a1 : Int) (hp0 : a1 ≤ 9223372036854775807) : Den Tryz.prog 83 [encL 3 eSector a0, .int .i64 a1] (.int .i64 (zsb a0 a1)) := by
 generalize hR : zsb a0 a1 = r
 unfold zsb at hR
 refine di Tryz.func83 Tryz.ntmps83 Tryz.results83 ?_
 intro c hL hc hk
 obtain ⟨hL0, hL1, _⟩ := hL
 have hw0 : a0.length < 9223372036854775808 := Nat.lt_succ_of_le (lens_encL hL0).1
 have hw1 : ∀ v ∈ a0, bwSector v := fun v hv => Sector_lens v ((lens_encL hL0).2 v hv)
 clear hL0 hL1
 simp only [pars, Nat.zero_add]
 iterate 2 refine rS ?_
 refine AWP.block ?_
 generalize hz1 : loopR (zsb_b1 a0 a1) (a0.length - 0) 0 a1 = z1 at hR
 refine AWP.range (zsb_b1 a0 a1) (fun i1 s1 => ⟨[(0, encL 3 eSector a0), (1, .int .i64 s1), (5, .int .i64 (i1 : Int))], []⟩) (fun i1 s1 => s1 ≤ 9223372036854775807) (a0.length) 0 a1 [] hz1 ot wt sm ?_
 clear hz1
 intro i1 s1 hi1 hW1 hz1
 refine rS ?_
 refine AWP.cond rfl (fun hb => ?_) (fun hb => ?_)
 ·have hlt1 : i1 < a0.length := ot
  rw [loopR_lt hlt1] at hz1; simp only [zsb_b1] at hz1
  refine rS ?_
  refine AWP.cond rfl (fun hb => ?_) (fun hb => ?_)
  ·simp only [hb, cond_true] at hz1
   refine rS ?_
   refine AWP.ret ?_
   subst hz1
   dsimp only at hR
   subst hR
   exact es
  ·simp only [hb, cond_false] at hz1
   iterate 2 refine rS ?_
   refine AWP.cond rfl (fun hb => ?_) (fun hb => ?_)
   ·simp only [hb, cond_true] at hz1
    refine rS ?_
    refine AWP.ret ?_
    subst hz1
    dsimp only at hR
    subst hR
    exact es
   ·simp only [hb, cond_false] at hz1
    refine rS ?_
    refine rD 7 ?_
    refine AWP.cond rfl (fun hb => ?_) (fun hb => ?_)
    ·simp only [hb, cond_true] at hz1
     refine rS ?_
     refine AWP.ret ?_
     subst hz1
     dsimp only at hR
     subst hR
     exact es
    ·simp only [hb, cond_false] at hz1
     iterate 2 refine rS ?_
     exact ⟨_, [], hlt1, by (exact mrg), hz1, sm⟩
 ·obtain rfl : i1 = a0.length := ot
  rw [loopR_ge (Nat.le_refl _)] at hz1; subst hz1; dsimp only at hR
  refine AWP.exit ?_; refine exitTo_here ?_
  refine rS ?_
  refine AWP.ret ?_
  subst hR
  exact es
end N83
def D_zsb : DF
 | [x0, x1] => some (.int .i64 (zsb (rdL dSector x0) (rdI x1)), false, [wL 3 eSector dSector x0, wI .i64 x1, (rdI x1) ≤ 9223372036854775807])
 | _ => none
theorem D_zsb_ok : OkD Tryz.prog 83 D_zsb := by unfold D_zsb; exact dk N83.den
end Go.Ab

namespace Go.Ab
open Go Go.Proofs
theorem loopR_pres {ρ σ : Type} {b : Nat → σ → Except ρ σ} (P : σ → Prop) (Q : ρ → Prop) (h : ∀ j u, P u → (∀ e, b j u = .error e → Q e) ∧ (∀ v, b j u = .ok v → P v)) : ∀ (k i : Nat) (s : σ), P s → (∀ e, loopR b k i s = .error e → Q e) ∧ (∀ v, loopR b k i s = .ok v → P v)
 | 0, i, s, hs => ⟨fun e he => by simp [loopR] at he, fun v hv => by simp only [loopR, Except.ok.injEq] at hv; subst hv; exact hs⟩
 | k + 1, i, s, hs => by
  have h0 := h i s hs
  simp only [loopR]
  cases hb : b i s with
  | error r => exact ⟨fun e he => by cases he; exact h0.1 _ hb, fun v hv => by cases hv⟩
  | ok t => exact loopR_pres P Q h k (i + 1) t (h0.2 _ hb)
theorem held_le {b : Nat → Int → Except Int Int} (h : ∀ j u, u ≤ 9223372036854775807 → (∀ e, b j u = .error e → e ≤ 9223372036854775807) ∧ (∀ v, b j u = .ok v → v ≤ 9223372036854775807)) (k i : Nat) (s : Int) (hs : s ≤ 9223372036854775807) :
  (match loopR b k i s with | .error e => e | .ok v => v) ≤ 9223372036854775807 := by
 have := loopR_pres (fun x => x ≤ 9223372036854775807) (fun x => x ≤ 9223372036854775807) h k i s hs
 cases hl : loopR b k i s with
 | error e => exact this.1 _ hl
 | ok v => exact this.2 _ hl
theorem heldInt64S_le (a : List Int) (k : Int) (h : k ≤ 9223372036854775807) : zu a k ≤ 9223372036854775807 := by
 unfold zu
 refine held_le (fun j u hu => ?_) _ _ _ h
 simp only [zu_b1, Bool.cond_eq_ite]
 (repeat' split) <;> refine ⟨fun e he => ?_, fun v hv => ?_⟩ <;> first | (cases he <;> first | exact wrap_le _ | decide) | (cases hv <;> first | exact wrap_le _ | decide)
theorem heldSectorS_le (a : List Sector) (k : Int) (h : k ≤ 9223372036854775807) : zsb a k ≤ 9223372036854775807 := by
 unfold zsb
 refine held_le (fun j u hu => ?_) _ _ _ h
 simp only [zsb_b1, Bool.cond_eq_ite]
 (repeat' split) <;> refine ⟨fun e he => ?_, fun v hv => ?_⟩ <;> first | (cases he <;> first | exact wrap_le _ | decide) | (cases hv <;> first | exact wrap_le _ | decide)
end Go.Ab

namespace Go.Ab
open Go Go.Proofs
def mkInt64 (v : Int) : Int := v
theorem zd_len (a : List Int) (k : Int) : (zd a k).2.length = a.length := by
 unfold zd
 obtain ⟨t, h1, h2⟩ := loopR_total (b := zd_b1 a k) (fun _ s => s.2.length = a.length) (k := a.length - 0) (i := 0) (s := (k, a)) rfl (by
  intro j u _ _ h
  exact ⟨_, rfl, by simpa using h⟩)
 rw [h1]
 exact h2
theorem zd_sub (a : List Int) (k : Int) : subL (zd a k).2 0 a.length = (zd a k).2 := by
 rw [← zd_len a k]; exact subL_all _
theorem zd_eq (a : List Int) (k : Int) (h0 : 0 ≤ k) (h1 : k + 1 * a.length < 4611686018427387904) : zd a k = (k + 1 * a.length, (List.range a.length).map (fun j : Nat => mkInt64 (k + 1 * j))) := by
 unfold zd
 obtain ⟨t, q1, q2, q3, q4⟩ := loopR_total (b := zd_b1 a k) (fun i s => s.1 = k + 1 * i ∧ s.2.length = a.length ∧ ∀ j, j < i → s.2.getD j default = mkInt64 (k + 1 * j)) (k := a.length - 0) (i := 0) (s := (k, a)) ⟨by simp, rfl, by intro j hj; omega⟩ (by
  intro j u _ hj ⟨h2, h3, h4⟩
  have w1 : ∀ m : Int, 0 ≤ m → m < 4611686018427387904 → IntKind.wrap .i64 (m + 1) = m + 1 := by intro m _ _; rw [IntKind.wrap_i64]; omega
  have w0 : ∀ m : Int, 0 ≤ m → m < 4611686018427387904 → IntKind.wrap .i64 m = m := by intro m _ _; rw [IntKind.wrap_i64]; omega
  refine ⟨_, rfl, ?_, ?_, ?_⟩
  ·simp only [h2, IntKind.wrap_i64]; omega
  ·simpa using h3
  ·intro q hq
   simp only
   rw [lgetD_set]
   by_cases h : q = j
   ·subst h
    rw [if_pos ⟨rfl, by omega⟩, h2]
    simp only [mkInt64]
    all_goals (try rw [Int.mk.injEq])
    all_goals (and_intros <;> first | rfl | trivial | (simp only [IntKind.wrap_i64]; omega) | (congr 1; (simp only [IntKind.wrap_i64]; omega)))
   ·rw [if_neg (fun hh => h hh.1)]
    exact h4 q (by omega))
 rw [q1]
 simp only [Nat.zero_add, Nat.sub_zero] at q2 q4
 simp only [q2]
 congr 1
 apply getD_ext
 ·simpa using q3
 ·intro i hi
  rw [q4 i (by omega)]
  simp [List.getD_eq_getElem?_getD]
  rw [List.getElem?_range (by omega)]
  rfl
theorem zd_k (a : List Int) (k : Int) (h0 : 0 ≤ k) (h1 : k ≤ 1152921504606846976) (hl : a.length < 1099511627776) : (zd a k).1 = k + 1 * a.length := by
 rw [zd_eq a k h0 (by omega)]
theorem zu_mark (a : List Int) (k : Int) (h0 : 0 ≤ k) (hk : k ≤ 1152921504606846976) (h1 : a.length < 1099511627776) : zu (zd a k).2 k = (zd a k).1 ∧ ¬ (zd a k).1 < 0 := by
 rw [zd_eq a k h0 (by omega)]
 refine ⟨?_, by simp only; omega⟩
 simp only
 unfold zu
 obtain ⟨t, q1, q2⟩ := loopR_total (b := zu_b1 ((List.range a.length).map (fun j : Nat => mkInt64 (k + 1 * j))) k) (fun i s => s = k + 1 * (i : Int)) (k := ((List.range a.length).map (fun j : Nat => mkInt64 (k + 1 * j))).length - 0) (i := 0) (s := k) (by simp) (by
  intro j u _ hj h2
  have hj2 : j < a.length := by simpa using hj
  have hg : ((List.range a.length).map (fun j : Nat => mkInt64 (k + 1 * j))).getD j default = mkInt64 (k + 1 * j) := by
   simp [List.getD_eq_getElem?_getD, hj2]
  subst h2
  refine ⟨k + 1 * ((j + 1 : Nat) : Int), ?_, rfl⟩
  have e1 : ∀ m : Int, 0 ≤ m → m < 4611686018427387904 → (m + 9223372036854775808) % 18446744073709551616 - 9223372036854775808 = m := by intro m _ _; omega
  simp only [zu_b1]
  simp only [hg]
  simp only [mkInt64, IntKind.wrap_i64]
  (repeat rw [e1 _ (by omega) (by omega)])
  simp only [Int.add_assoc, Int.reduceAdd, bne_self_eq_false, cond_false, Except.ok.injEq]
  omega)
 rw [q1]
 simp only [q2]
 simp
end Go.Ab

namespace Go.Ab
open Go Go.Proofs
theorem wr1 {k : Int} (h0 : 0 ≤ k) (h1 : k < 4611686018427387904) : IntKind.wrap .i64 (k + 1) = k + 1 := by rw [IntKind.wrap_i64]; omega
def sectorStep (x : Sector) (k : Int) : Int × Sector :=
 (IntKind.wrap .i64 ((IntKind.wrap .i64 ((IntKind.wrap .i64 (k + 1)) + 1)) + 1), { From := k, To := IntKind.wrap .i64 (k + 1), Color := (zn (IntKind.wrap .i64 ((IntKind.wrap .i64 (k + 1)) + 1))) : Sector })
theorem sectorStep_k (x : Sector) (k : Int) (h0 : 0 ≤ k) (h1 : k ≤ 2305843009213693952) : (sectorStep x k).1 = k + 3 := by
 unfold sectorStep
 simp (disch := omega) only [wr1]
 omega
theorem markSectorS_R (a : List Sector) (k : Int) : zp a k = markR sectorStep a k := by
 unfold zp
 have := markR_loop sectorStep (zp_b1 a k) (fun i s => rfl) a [] k
 simp only [List.length_nil, List.nil_append, Nat.sub_zero] at this ⊢
 rw [this]
theorem markR_k3 : ∀ (a : List Sector) (k : Int), 0 ≤ k → k + 3 * a.length ≤ 2305843009213693952 → (markR sectorStep a k).1 = k + 3 * a.length
 | [], k, _, _ => by simp [markR]
 | x :: a, k, h0, h1 => by
  simp only [List.length_cons] at h1 ⊢
  simp only [markR]
  have hk := sectorStep_k x k h0 (by omega)
  rw [markR_k3 a _ (by omega) (by omega), hk]
  omega
theorem markSectorS_k (a : List Sector) (k : Int) (h0 : 0 ≤ k) (h1 : k ≤ 1152921504606846976) (hl : a.length ≤ 1099511627776) : (zp a k).1 = k + 3 * a.length := by
 rw [markSectorS_R, markR_k3 a k h0 (by omega)]
theorem heldSectorS_mark (a : List Sector) (k : Int) (h0 : 0 ≤ k) (h1 : k ≤ 1152921504606846976) (hl : a.length ≤ 1099511627776) : zsb (zp a k).2 k = (zp a k).1 ∧ ¬ (zp a k).1 < 0 := by
 refine ⟨?_, by rw [markSectorS_k a k h0 h1 hl]; omega⟩
 rw [markSectorS_R]
 unfold zsb
 rw [markR_len, Nat.sub_zero]
 rw [markR_held sectorStep (zsb_b1 (markR sectorStep a k).2 k) (fun _ => True) 3 2305843009213693952 (by omega) (fun x k _ g0 g1 => by rw [sectorStep_k x k g0 g1]; omega) a 0 k (fun _ _ => trivial) h0 (by omega) (fun j x s _ g0 g1 g2 => by
  have e : (markR sectorStep a k).2.getD (0 + j) default = (sectorStep x s).2 := by rw [Nat.zero_add, List.getD_eq_getElem?_getD, g2]; rfl
  simp only [zsb_b1, e]
  simp only [sectorStep, bne_self_eq_false, cond_false])]
end Go.Ab

namespace Go.Ab
open Go Go.Proofs
def zq_b1 (a0 : (List Aid)) (a1 : Int) (i1 : Nat) (s1 : Int × List Aid) : Except (Int × (List Aid)) (Int × List Aid) :=
 .ok (IntKind.wrap .i64 (((zp ((s1.2.getD i1 default).Sectors) (IntKind.wrap .i64 ((IntKind.wrap .i64 ((IntKind.wrap .i64 (((zd (((s1.2.getD i1 default).Light).Group) (IntKind.wrap .i64 ((IntKind.wrap .i64 ((IntKind.wrap .i64 ((IntKind.wrap .i64 ((IntKind.wrap .i64 ((IntKind.wrap .i64 ((IntKind.wrap .i64 ((IntKind.wrap .i64 ((IntKind.wrap .i64 ((IntKind.wrap .i64 (s1.1 + 1)) + 1)) + 1)) + 1)) + 1)) + 1)) + 1)) + 1)) + 1)) + 1))).1) + 1)) + 1)) + 1))).1) + 1), s1.2.set i1 ({ Number := s1.1, Name := (zn (IntKind.wrap .i64 (s1.1 + 1))), At := { X := IntKind.wrap .i64 ((IntKind.wrap .i64 (s1.1 + 1)) + 1), Y := IntKind.wrap .i64 ((IntKind.wrap .i64 ((IntKind.wrap .i64 (s1.1 + 1)) + 1)) + 1) : Point }, Height := IntKind.wrap .i64 ((IntKind.wrap .i64 ((IntKind.wrap .i64 ((IntKind.wrap .i64 (s1.1 + 1)) + 1)) + 1)) + 1), Mark := { Kind := IntKind.wrap .i64 ((IntKind.wrap .i64 ((IntKind.wrap .i64 ((IntKind.wrap .i64 ((IntKind.wrap .i64 (s1.1 + 1)) + 1)) + 1)) + 1)) + 1), Colors := (zn (IntKind.wrap .i64 ((IntKind.wrap .i64 ((IntKind.wrap .i64 ((IntKind.wrap .i64 ((IntKind.wrap .i64 ((IntKind.wrap .i64 (s1.1 + 1)) + 1)) + 1)) + 1)) + 1)) + 1))), Shape := (zn (IntKind.wrap .i64 ((IntKind.wrap .i64 ((IntKind.wrap .i64 ((IntKind.wrap .i64 ((IntKind.wrap .i64 ((IntKind.wrap .i64 ((IntKind.wrap .i64 (s1.1 + 1)) + 1)) + 1)) + 1)) + 1)) + 1)) + 1))), Topmark := (zn (IntKind.wrap .i64 ((IntKind.wrap .i64 ((IntKind.wrap .i64 ((IntKind.wrap .i64 ((IntKind.wrap .i64 ((IntKind.wrap .i64 ((IntKind.wrap .i64 ((IntKind.wrap .i64 (s1.1 + 1)) + 1)) + 1)) + 1)) + 1)) + 1)) + 1)) + 1))) : Mark }, Light := { Kind := IntKind.wrap .i64 ((IntKind.wrap .i64 ((IntKind.wrap .i64 ((IntKind.wrap .i64 ((IntKind.wrap .i64 ((IntKind.wrap .i64 ((IntKind.wrap .i64 ((IntKind.wrap .i64 ((IntKind.wrap .i64 (s1.1 + 1)) + 1)) + 1)) + 1)) + 1)) + 1)) + 1)) + 1)) + 1), Group := (zd (((s1.2.getD i1 default).Light).Group) (IntKind.wrap .i64 ((IntKind.wrap .i64 ((IntKind.wrap .i64 ((IntKind.wrap .i64 ((IntKind.wrap .i64 ((IntKind.wrap .i64 ((IntKind.wrap .i64 ((IntKind.wrap .i64 ((IntKind.wrap .i64 ((IntKind.wrap .i64 (s1.1 + 1)) + 1)) + 1)) + 1)) + 1)) + 1)) + 1)) + 1)) + 1)) + 1))).2, Letter := (zn ((zd (((s1.2.getD i1 default).Light).Group) (IntKind.wrap .i64 ((IntKind.wrap .i64 ((IntKind.wrap .i64 ((IntKind.wrap .i64 ((IntKind.wrap .i64 ((IntKind.wrap .i64 ((IntKind.wrap .i64 ((IntKind.wrap .i64 ((IntKind.wrap .i64 ((IntKind.wrap .i64 (s1.1 + 1)) + 1)) + 1)) + 1)) + 1)) + 1)) + 1)) + 1)) + 1)) + 1))).1)), Colors := (zn (IntKind.wrap .i64 (((zd (((s1.2.getD i1 default).Light).Group) (IntKind.wrap .i64 ((IntKind.wrap .i64 ((IntKind.wrap .i64 ((IntKind.wrap .i64 ((IntKind.wrap .i64 ((IntKind.wrap .i64 ((IntKind.wrap .i64 ((IntKind.wrap .i64 ((IntKind.wrap .i64 ((IntKind.wrap .i64 (s1.1 + 1)) + 1)) + 1)) + 1)) + 1)) + 1)) + 1)) + 1)) + 1)) + 1))).1) + 1))), Period := IntKind.wrap .i64 ((IntKind.wrap .i64 (((zd (((s1.2.getD i1 default).Light).Group) (IntKind.wrap .i64 ((IntKind.wrap .i64 ((IntKind.wrap .i64 ((IntKind.wrap .i64 ((IntKind.wrap .i64 ((IntKind.wrap .i64 ((IntKind.wrap .i64 ((IntKind.wrap .i64 ((IntKind.wrap .i64 ((IntKind.wrap .i64 (s1.1 + 1)) + 1)) + 1)) + 1)) + 1)) + 1)) + 1)) + 1)) + 1)) + 1))).1) + 1)) + 1) : Character }, Sectors := (zp ((s1.2.getD i1 default).Sectors) (IntKind.wrap .i64 ((IntKind.wrap .i64 ((IntKind.wrap .i64 (((zd (((s1.2.getD i1 default).Light).Group) (IntKind.wrap .i64 ((IntKind.wrap .i64 ((IntKind.wrap .i64 ((IntKind.wrap .i64 ((IntKind.wrap .i64 ((IntKind.wrap .i64 ((IntKind.wrap .i64 ((IntKind.wrap .i64 ((IntKind.wrap .i64 ((IntKind.wrap .i64 (s1.1 + 1)) + 1)) + 1)) + 1)) + 1)) + 1)) + 1)) + 1)) + 1)) + 1))).1) + 1)) + 1)) + 1))).2, Intensity := ((zp ((s1.2.getD i1 default).Sectors) (IntKind.wrap .i64 ((IntKind.wrap .i64 ((IntKind.wrap .i64 (((zd (((s1.2.getD i1 default).Light).Group) (IntKind.wrap .i64 ((IntKind.wrap .i64 ((IntKind.wrap .i64 ((IntKind.wrap .i64 ((IntKind.wrap .i64 ((IntKind.wrap .i64 ((IntKind.wrap .i64 ((IntKind.wrap .i64 ((IntKind.wrap .i64 ((IntKind.wrap .i64 (s1.1 + 1)) + 1)) + 1)) + 1)) + 1)) + 1)) + 1)) + 1)) + 1)) + 1))).1) + 1)) + 1)) + 1))).1) : Aid }))
def zq (a0 : (List Aid)) (a1 : Int) : Int × (List Aid) :=
 (match loopR (zq_b1 a0 a1) (a0.length - 0) 0 (a1, a0) with | .error e => e | .ok s1 => (s1.1, s1.2))
namespace N28
theorem DD : DOk Tryz.prog (Go.Ab.DD [(20, dM [true, false] D_zd), (75, dP D_zn), (76, dM [true, false] D_zp)]) := DD_cons D_zd_ok.e <| DD_cons D_zn_ok.e <| DD_cons D_zp_ok.e <| DD_nil _
theorem dn : type_of% (And.intro @D_zd.eq_1 <| And.intro @D_zn.eq_1 <| And.intro @D_zp.eq_1 <| And.intro @zd_sub <| @markSectorS_sub) := And.intro @D_zd.eq_1 <| And.intro @D_zn.eq_1 <| And.intro @D_zp.eq_1 <| And.intro @zd_sub <| @markSectorS_sub
theorem ol : type_of% (And.intro @zd_len <| @markSectorS_len) := And.intro @zd_len <| @markSectorS_len
theorem gr {p : Prop} (h : p := by (grind [zd_len, markSectorS_le]); first | done | fail) : p := h
theorem o1 {p : Prop} (h : p := by (first | (exact mrg) | (first | exact markInt64S_le _ _ (by exact mrg) | exact markSectorS_le _ _ (by exact mrg) | exact markInt64S_le _ _ (wrap_le _) | exact markSectorS_le _ _ (wrap_le _))); first | done | fail) : p := h
theorem o2 {p : Prop} (h : p := by (first | (and_intros <;> first | rfl | decide | (rw [IntKind.wrap_i64]; omega) | (simp only [List.length_set]; (first | done | fail)) | (intro j hj; by_cases hji : j = i1; (focus (subst hji; simp only [set_same hj, Nat.beq_refl, beq_self_eq_true, cond_true, ol]; first | (first | done | fail) | rfl | (and_intros <;> rfl))); (simp only [set_other hji, beqF hji, cond_false]; first | (first | done | fail) | rfl | (and_intros <;> rfl))))); first | done | fail) : p := h
set_option maxHeartbeats 4000000 in
set_option maxRecDepth 20000 in
theorem den (a0 : (List Aid)) (a1 : Int) (hp0 : a1 ≤ 9223372036854775807) : DenD Tryz.prog 28 [ownL 63 16 eAidO a0, .int .i64 a1] (.int .i64 ((zq a0 a1).1)) [(ownL 63 16 eAidO ((zq a0 a1).2)), .any] := by
 generalize hR : zq a0 a1 = r
 unfold zq at hR
 refine den_introD (gb := [true, false]) G_ok Tryz.func28 (by kernel_rfl) rfl Tryz.ntmps28 (by rw [Tryz.results28]) (by simp) ?_
 intro c hdp hL hc hk
 obtain ⟨hL0, hL1, _⟩ := hL
 have hw0 : a0.length < 9223372036854775808 := Nat.lt_succ_of_le (lens_ownL hL0).1
 have hw1 : ∀ v ∈ a0, bwAid v := fun v hv => Aid_lensO v ((lens_ownL hL0).2 v hv)
 clear hL0 hL1
 simp only [adEL, adE, adRL, adR, ownL, encL, sv, List.nil_append, List.append_nil, List.cons_append, List.length_cons, List.length_nil, pars, Nat.zero_add, Nat.reduceAdd] at hk ⊢
 iterate 2 refine rS ?_
 refine AWP.block ?_
 generalize hz1 : loopR (zq_b1 a0 a1) (a0.length - 0) 0 (a1, a0) = z1 at hR
 refine AWP.range (zq_b1 a0 a1) (fun i1 s1 => ⟨[(0, .ref 0 16 0 s1.2.length), (1, .int .i64 s1.1), (5, .int .i64 (i1 : Int))], [.arr 63 16 s1.2.length (fun j => eAidO (s1.2.getD j default))]⟩) (fun i1 s1 => s1.2.length = a0.length ∧ s1.1 ≤ 9223372036854775807) (a0.length) 0 (a1, a0) [0] hz1 ot wt sm ?_
 clear hz1
 intro i1 s1 hi1 hW1 hz1
 refine rS ?_
 refine AWP.cond rfl (fun hb => ?_) (fun hb => ?_)
 ·have hlt1 : i1 < a0.length := ot
  rw [loopR_lt hlt1] at hz1; simp only [zq_b1] at hz1
  iterate 4 refine rS ?_
  refine AWP.keepT [0, 1, 5] ?_; simp only [List.map, putL, dropL, Nat.beq_refl, cond_true, ea, absV, absVL, cput, gv, sv, dn, reduceCtorEq, reduceIte, Nat.reduceBEq, Nat.reduceAdd, Nat.reduceEqDiff, Nat.reduceLT, Nat.reduceLeDiff, Nat.reduceMul, Nat.reduceSub, BEq.rfl, beq_self_eq_true, Int.reduceToNat]
  iterate 5 refine rS ?_
  refine AWP.keepT [0, 1, 5] ?_; simp only [List.map, putL, dropL, Nat.beq_refl, cond_true, ea, absV, absVL, cput, gv, sv, dn, reduceCtorEq, reduceIte, Nat.reduceBEq, Nat.reduceAdd, Nat.reduceEqDiff, Nat.reduceLT, Nat.reduceLeDiff, Nat.reduceMul, Nat.reduceSub, BEq.rfl, beq_self_eq_true, Int.reduceToNat]
  iterate 5 refine rS ?_
  refine AWP.keepT [0, 1, 5] ?_; simp only [List.map, putL, dropL, Nat.beq_refl, cond_true, ea, absV, absVL, cput, gv, sv, dn, reduceCtorEq, reduceIte, Nat.reduceBEq, Nat.reduceAdd, Nat.reduceEqDiff, Nat.reduceLT, Nat.reduceLeDiff, Nat.reduceMul, Nat.reduceSub, BEq.rfl, beq_self_eq_true, Int.reduceToNat]
  iterate 5 refine rS ?_
  refine AWP.keepT [0, 1, 5] ?_; simp only [List.map, putL, dropL, Nat.beq_refl, cond_true, ea, absV, absVL, cput, gv, sv, dn, reduceCtorEq, reduceIte, Nat.reduceBEq, Nat.reduceAdd, Nat.reduceEqDiff, Nat.reduceLT, Nat.reduceLeDiff, Nat.reduceMul, Nat.reduceSub, BEq.rfl, beq_self_eq_true, Int.reduceToNat]
  refine rS ?_
  refine AWP.seq ?_
  refine AWP.openE rb 0 0 i1 10 rfl rfl ot (by simp only [putL, dropL, Nat.beq_refl, cond_true, ea, absV, absVL, cput, gv, sv, dn, reduceCtorEq, reduceIte, Nat.reduceBEq, Nat.reduceAdd, Nat.reduceEqDiff, Nat.reduceLT, Nat.reduceLeDiff, Nat.reduceMul, Nat.reduceSub, BEq.rfl, beq_self_eq_true, Int.reduceToNat]; rfl) ?_; simp only [putL, dropL, Nat.beq_refl, cond_true, ea, absV, absVL, cput, gv, sv, dn, reduceCtorEq, reduceIte, Nat.reduceBEq, Nat.reduceAdd, Nat.reduceEqDiff, Nat.reduceLT, Nat.reduceLeDiff, Nat.reduceMul, Nat.reduceSub, BEq.rfl, beq_self_eq_true, Int.reduceToNat]
  refine rS ?_
  simp only [ol]
  refine AWP.closeE 0 0 i1 10 1 rfl rfl rfl (by decide) ot (by simp only [putL, dropL, Nat.beq_refl, cond_true, ea, absV, absVL, cput, gv, sv, dn, reduceCtorEq, reduceIte, Nat.reduceBEq, Nat.reduceAdd, Nat.reduceEqDiff, Nat.reduceLT, Nat.reduceLeDiff, Nat.reduceMul, Nat.reduceSub, BEq.rfl, beq_self_eq_true, Int.reduceToNat]; rfl) (fun k hk => by rfl) ?_; simp only [putL, dropL, Nat.beq_refl, cond_true, ea, absV, absVL, cput, gv, sv, dn, reduceCtorEq, reduceIte, Nat.reduceBEq, Nat.reduceAdd, Nat.reduceEqDiff, Nat.reduceLT, Nat.reduceLeDiff, Nat.reduceMul, Nat.reduceSub, BEq.rfl, beq_self_eq_true, Int.reduceToNat]
  iterate 3 refine rS ?_
  refine AWP.keepT [0, 1, 5] ?_; simp only [List.map, putL, dropL, Nat.beq_refl, cond_true, ea, absV, absVL, cput, gv, sv, dn, reduceCtorEq, reduceIte, Nat.reduceBEq, Nat.reduceAdd, Nat.reduceEqDiff, Nat.reduceLT, Nat.reduceLeDiff, Nat.reduceMul, Nat.reduceSub, BEq.rfl, beq_self_eq_true, Int.reduceToNat]
  iterate 3 refine rS ?_
  refine AWP.seq ?_
  refine AWP.openE rb 0 0 i1 14 rfl rfl ot (by simp only [putL, dropL, Nat.beq_refl, cond_true, ea, absV, absVL, cput, gv, sv, dn, reduceCtorEq, reduceIte, Nat.reduceBEq, Nat.reduceAdd, Nat.reduceEqDiff, Nat.reduceLT, Nat.reduceLeDiff, Nat.reduceMul, Nat.reduceSub, BEq.rfl, beq_self_eq_true, Int.reduceToNat]; rfl) ?_; simp only [putL, dropL, Nat.beq_refl, cond_true, ea, absV, absVL, cput, gv, sv, dn, reduceCtorEq, reduceIte, Nat.reduceBEq, Nat.reduceAdd, Nat.reduceEqDiff, Nat.reduceLT, Nat.reduceLeDiff, Nat.reduceMul, Nat.reduceSub, BEq.rfl, beq_self_eq_true, Int.reduceToNat]
  refine rS ?_
  simp only [ol]
  refine AWP.closeE 0 0 i1 14 2 rfl rfl rfl (by decide) ot (by simp only [putL, dropL, Nat.beq_refl, cond_true, ea, absV, absVL, cput, gv, sv, dn, reduceCtorEq, reduceIte, Nat.reduceBEq, Nat.reduceAdd, Nat.reduceEqDiff, Nat.reduceLT, Nat.reduceLeDiff, Nat.reduceMul, Nat.reduceSub, BEq.rfl, beq_self_eq_true, Int.reduceToNat]; rfl) (fun k hk => by rfl) ?_; simp only [putL, dropL, Nat.beq_refl, cond_true, ea, absV, absVL, cput, gv, sv, dn, reduceCtorEq, reduceIte, Nat.reduceBEq, Nat.reduceAdd, Nat.reduceEqDiff, Nat.reduceLT, Nat.reduceLeDiff, Nat.reduceMul, Nat.reduceSub, BEq.rfl, beq_self_eq_true, Int.reduceToNat]
  refine rS ?_
  refine AWP.keepT [0, 1, 5] ?_; simp only [List.map, putL, dropL, Nat.beq_refl, cond_true, ea, absV, absVL, cput, gv, sv, dn, reduceCtorEq, reduceIte, Nat.reduceBEq, Nat.reduceAdd, Nat.reduceEqDiff, Nat.reduceLT, Nat.reduceLeDiff, Nat.reduceMul, Nat.reduceSub, BEq.rfl, beq_self_eq_true, Int.reduceToNat]
  iterate 2 refine rS ?_
  exact ⟨_, [0], hlt1, by (exact mrg), hz1, sm⟩
 ·obtain rfl : i1 = a0.length := ot
  rw [loopR_ge (Nat.le_refl _)] at hz1; subst hz1; dsimp only at hR
  refine AWP.exit ?_; refine exitTo_here ?_
  refine rS ?_
  refine AWP.ret ?_
  subst hR
  exact es
end N28
end Go.Ab
