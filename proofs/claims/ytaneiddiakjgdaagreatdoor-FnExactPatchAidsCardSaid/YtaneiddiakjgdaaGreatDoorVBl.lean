/- A part of a proof: walks of functions and lemmas of our own. No conditions. -/
import Derived.Test.YtaneiddiakjgdaaGreatDoorVAl
import Derived.Test.YtaneiddiakjgdaaGreatDoorVBb
import Derived.Test.YtaneiddiakjgdaaGreatDoorVAn
import Derived.Test.YtaneiddiakjgdaaGreatDoorVAi
import Derived.Test.YtaneiddiakjgdaaGreatDoorVBc
import Derived.Test.YtaneiddiakjgdaaGreatDoorVAp
import Derived.Test.YtaneiddiakjgdaaGreatDoorVBd
import Derived.Test.YtaneiddiakjgdaaGreatDoorVBh
import Derived.Test.YtaneiddiakjgdaaGreatDoorVBg
set_option linter.unusedSectionVars false
set_option linter.unusedVariables false
set_option linter.unusedSimpArgs false
set_option maxHeartbeats 1000000
namespace Go.Ab
open Go Go.Proofs
def zgf (a0 : Correction) : Correction :=
 { Kind := a0.Kind, Aid := zpc a0.Aid : Correction }
namespace N133
theorem DD : DOk Tryz.prog (Go.Ab.DD [(33, dP D_zpc)]) := DD_cons D_zpc_ok.e <| DD_nil _
theorem dn : type_of% (@D_zpc.eq_1) := by and_intros <;> intros <;> rfl
theorem den (a0 : Correction) (hb0 : bdCorrection a0) : Den Tryz.prog 133 [.agg (eCorrection a0)] (.agg (eCorrectionO (zgf a0))) := by
 generalize hR : zgf a0 = r
 unfold zgf at hR
 refine di Tryz.func133 Tryz.ntmps133 Tryz.results133 ?_
 intro c hL hc hk
 obtain ⟨hL0, _⟩ := hL
 have hw0 : bwCorrection a0 := Correction_lens a0 hL0
 clear hL0
 simp only [pars, Nat.zero_add]
 iterate 5 refine rS ?_
 refine AWP.ret ?_
 subst hR
 exact es
end N133
def D_zgf : DF
 | [x0] => some (.agg (eCorrectionO (zgf (rdG dCorrection x0))), false, [wG eCorrection dCorrection x0, bdCorrection (rdG dCorrection x0)])
 | _ => none
theorem D_zgf_ok : OkD Tryz.prog 133 D_zgf := by unfold D_zgf; exact dk N133.den
end Go.Ab

namespace Go.Ab
open Go Go.Proofs
def zy_b1 (a0 : (List Correction)) (i1 : Nat) (s1 : List Correction) : Except ((List Correction)) (List Correction) :=
 .ok (s1.set i1 (zgf (a0.getD i1 default)))
def zy (a0 : (List Correction)) : (List Correction) :=
 (match loopR (zy_b1 a0) (a0.length - 0) 0 (List.replicate a0.length (default : Correction)) with | .error e => e | .ok s1 => s1)
namespace N60
theorem DD : DOk Tryz.prog (Go.Ab.DD [(133, dP D_zgf)]) := DD_cons D_zgf_ok.e <| DD_nil _
theorem dn : type_of% (@D_zgf.eq_1) := by and_intros <;> intros <;> rfl
theorem den (a0 : (List Correction)) (hb0 : a0.length < 1099511627776) (hb1 : ∀ v ∈ a0, bdCorrection v) (hp0 : a0.length ≤ 1048576) : Den Tryz.prog 60 [encL 17 eCorrection a0] (ownL 119 17 eCorrectionO (zy a0)) := by
 generalize hR : zy a0 = r
 unfold zy at hR
 refine di Tryz.func60 Tryz.ntmps60 Tryz.results60 ?_
 intro c hL hc hk
 obtain ⟨hL0, _⟩ := hL
 have hw0 : a0.length < 9223372036854775808 := Nat.lt_succ_of_le (lens_encL hL0).1
 have hw1 : ∀ v ∈ a0, bwCorrection v := fun v hv => Correction_lens v ((lens_encL hL0).2 v hv)
 clear hL0
 simp only [pars, Nat.zero_add]
 iterate 2 refine rS ?_
 refine AWP.arrS 0 (fun j => eCorrectionO ((List.replicate a0.length (default : Correction)).getD j default)) rfl zs ?_; simp only [setE]
 refine rS ?_
 refine AWP.block ?_
 generalize hz1 : loopR (zy_b1 a0) (a0.length - 0) 0 (List.replicate a0.length (default : Correction)) = z1 at hR
 refine AWP.range (zy_b1 a0) (fun i1 s1 => ⟨[(0, encL 17 eCorrection a0), (3, .ref 0 17 0 s1.length), (4, .int .i64 (i1 : Int))], [.arr 119 17 s1.length (fun j => eCorrectionO (s1.getD j default))]⟩) (fun i1 s1 => s1.length = (List.replicate a0.length (default : Correction)).length) (a0.length) 0 (List.replicate a0.length (default : Correction)) [0] hz1 ot wt sm ?_
 clear hz1
 intro i1 s1 hi1 hW1 hz1
 refine rS ?_
 refine AWP.cond rfl (fun hb => ?_) (fun hb => ?_)
 ·have hlt1 : i1 < a0.length := ot
  rw [loopR_lt hlt1] at hz1; simp only [zy_b1] at hz1
  iterate 2 refine rS ?_
  exact ⟨_, [0], hlt1, wt, hz1, sm⟩
 ·obtain rfl : i1 = a0.length := ot
  rw [loopR_ge (Nat.le_refl _)] at hz1; subst hz1; dsimp only at hR
  refine AWP.exit ?_; refine exitTo_here ?_
  refine rS ?_
  refine AWP.ret ?_
  subst hR
  exact es
end N60
def D_zy : DF
 | [x0] => some (ownL 119 17 eCorrectionO (zy (rdL dCorrection x0)), false, [wL 17 eCorrection dCorrection x0, (rdL dCorrection x0).length < 1099511627776, ∀ v ∈ (rdL dCorrection x0), bdCorrection v, (rdL dCorrection x0).length ≤ 1048576])
 | _ => none
theorem D_zy_ok : OkD Tryz.prog 60 D_zy := by unfold D_zy; exact dk N60.den
end Go.Ab

namespace Go.Ab
open Go Go.Proofs
theorem zgf_id (v : Correction) : zgf v = v := by
 unfold zgf
 simp only [zpc_id]
end Go.Ab

namespace Go.Ab
open Go Go.Proofs
theorem zy_id (a : List Correction) : zy a = a := by
 unfold zy
 rw [loopR_fill (b := zy_b1 a) (fun i => zgf (a.getD i default)) (by simp) (fun i s _ => rfl)]
 simp only [zgf_id]
 exact range_getD a
end Go.Ab

namespace Go.Ab
open Go Go.Proofs
def zde (a0 : Correction) (a1 : Int) : Int :=
 (bif decide ((zgb a0.Aid a1) < 0) then (-1) else (zgb a0.Aid a1))
namespace N130
theorem DD : DOk Tryz.prog (Go.Ab.DD [(31, dP D_zgb)]) := DD_cons D_zgb_ok.e <| DD_nil _
theorem dn : type_of% (@D_zgb.eq_1) := by and_intros <;> intros <;> rfl
theorem den (a0 : Correction) (a1 : Int)  : Den Tryz.prog 130 [.agg (eCorrection a0), .int .i64 a1] (.int .i64 (zde a0 a1)) := by
 generalize hR : zde a0 a1 = r
 unfold zde at hR
 refine di Tryz.func130 Tryz.ntmps130 Tryz.results130 ?_
 intro c hL hc hk
 obtain ⟨hL0, hL1, _⟩ := hL
 have hw0 : bwCorrection a0 := Correction_lens a0 hL0
 clear hL0 hL1
 simp only [pars, Nat.zero_add]
 iterate 3 refine rS ?_
 refine AWP.cond rfl (fun hb => ?_) (fun hb => ?_)
 ·replace hR := ct hR
  refine rS ?_
  refine AWP.ret ?_
  subst hR
  exact es
 ·replace hR := cf hR
  refine rS ?_
  refine AWP.ret ?_
  subst hR
  exact es
end N130
def D_zde : DF
 | [x0, x1] => some (.int .i64 (zde (rdG dCorrection x0) (rdI x1)), false, [wG eCorrection dCorrection x0, wI .i64 x1])
 | _ => none
theorem D_zde_ok : OkD Tryz.prog 130 D_zde := by unfold D_zde; exact dk N130.den
end Go.Ab

namespace Go.Ab
open Go Go.Proofs
theorem zde_facts (x : Correction) (n : Int) (h0 : -1 ≤ n) (h1 : n ≤ 1048576) (hx : bwCorrection x) : -1 ≤ zde x n ∧ zde x n ≤ n ∧ (¬ zde x n < 0 → smCorrection x) := by
 have b0 := hx
 unfold zde
 have f0 := zgb_facts x.Aid (n) (by omega) (by omega) b0
 by_cases c0 : zgb x.Aid (n) < 0
 ·rw [decide_eq_true c0]; exact ⟨by simp, by simpa using h0, fun h => absurd (by simp) h⟩
 rw [decide_eq_false c0]
 simp only [cond_false]
 exact ⟨by omega, by omega, fun _ => f0.2.2 c0⟩
end Go.Ab

namespace Go.Ab
open Go Go.Proofs
def zzb_b1 (a0 : (List Correction)) (a1 : Int) (i1 : Nat) (s1 : Int) : Except (Int) (Int) :=
 (bif decide ((zde (a0.getD i1 default) s1) < 0) then .error (-1) else .ok (zde (a0.getD i1 default) s1))
def zzb (a0 : (List Correction)) (a1 : Int) : Int :=
 (bif decide ((IntKind.wrap .i64 (a1 - (a0.length : Int))) < 0) then (-1) else (match loopR (zzb_b1 a0 a1) (a0.length - 0) 0 (IntKind.wrap .i64 (a1 - (a0.length : Int))) with | .error e => e | .ok s1 => s1))
namespace N58
theorem DD : DOk Tryz.prog (Go.Ab.DD [(130, dP D_zde)]) := DD_cons D_zde_ok.e <| DD_nil _
theorem dn : type_of% (@D_zde.eq_1) := by and_intros <;> intros <;> rfl
theorem den (a0 : (List Correction)) (a1 : Int)  : Den Tryz.prog 58 [encL 17 eCorrection a0, .int .i64 a1] (.int .i64 (zzb a0 a1)) := by
 generalize hR : zzb a0 a1 = r
 unfold zzb at hR
 refine di Tryz.func58 Tryz.ntmps58 Tryz.results58 ?_
 intro c hL hc hk
 obtain ⟨hL0, hL1, _⟩ := hL
 have hw0 : a0.length < 9223372036854775808 := Nat.lt_succ_of_le (lens_encL hL0).1
 have hw1 : ∀ v ∈ a0, bwCorrection v := fun v hv => Correction_lens v ((lens_encL hL0).2 v hv)
 clear hL0 hL1
 simp only [pars, Nat.zero_add]
 iterate 3 refine rS ?_
 refine AWP.cond rfl (fun hb => ?_) (fun hb => ?_)
 ·replace hR := ct hR
  refine rS ?_
  refine AWP.ret ?_
  subst hR
  exact es
 ·replace hR := cf hR
  refine rS ?_
  refine AWP.block ?_
  generalize hz1 : loopR (zzb_b1 a0 a1) (a0.length - 0) 0 (IntKind.wrap .i64 (a1 - (a0.length : Int))) = z1 at hR
  refine AWP.range (zzb_b1 a0 a1) (fun i1 s1 => ⟨[(0, encL 17 eCorrection a0), (1, .int .i64 s1), (5, .int .i64 (i1 : Int))], []⟩) (fun i1 s1 => True) (a0.length) 0 (IntKind.wrap .i64 (a1 - (a0.length : Int))) [] hz1 ot wt sm ?_
  clear hz1
  intro i1 s1 hi1 hW1 hz1
  refine rS ?_
  refine AWP.cond rfl (fun hb => ?_) (fun hb => ?_)
  ·have hlt1 : i1 < a0.length := ot
   rw [loopR_lt hlt1] at hz1; simp only [zzb_b1] at hz1
   iterate 2 refine rS ?_
   refine AWP.cond rfl (fun hb => ?_) (fun hb => ?_)
   ·simp only [hb, cond_true] at hz1
    refine rS ?_
    refine AWP.ret ?_
    subst hz1
    dsimp only at hR
    subst hR
    exact es
   ·simp only [hb, cond_false] at hz1
    refine rS ?_
    exact ⟨_, [], hlt1, wt, hz1, sm⟩
  ·obtain rfl : i1 = a0.length := ot
   rw [loopR_ge (Nat.le_refl _)] at hz1; subst hz1; dsimp only at hR
   refine AWP.exit ?_; refine exitTo_here ?_
   refine rS ?_
   refine AWP.ret ?_
   subst hR
   exact es
end N58
def D_zzb : DF
 | [x0, x1] => some (.int .i64 (zzb (rdL dCorrection x0) (rdI x1)), false, [wL 17 eCorrection dCorrection x0, wI .i64 x1])
 | _ => none
theorem D_zzb_ok : OkD Tryz.prog 58 D_zzb := by unfold D_zzb; exact dk N58.den
end Go.Ab

namespace Go.Ab
open Go Go.Proofs
theorem zzb_facts (a : List Correction) (n : Int) (h0 : -1 ≤ n) (h1 : n ≤ 1048576) (hl : a.length < 9223372036854775808) (hx : ∀ v ∈ a, bwCorrection v) :
  -1 ≤ zzb a n ∧ zzb a n ≤ n ∧ (¬ zzb a n < 0 → a.length ≤ 1048576 ∧ ∀ v ∈ a, smCorrection v) := by
 unfold zzb
 rw [show IntKind.wrap .i64 (n - (a.length : Int)) = n - a.length from by rw [IntKind.wrap_i64]; omega]
 by_cases c : n - (a.length : Int) < 0
 ·rw [decide_eq_true c]; exact ⟨by simp, by simpa using h0, fun h => absurd (by simp) h⟩
 ·rw [decide_eq_false c]
  simp only [cond_false]
  split
  ·rename_i e h
   obtain ⟨j, t, _, _, h3⟩ := loopR_error h
   simp only [zzb_b1] at h3
   have : e = -1 := by
    cases hq : decide (zde (a.getD j default) t < 0) with
    | true => rw [hq] at h3; simpa using h3.symm
    | false => rw [hq] at h3; simp at h3
   omega
  ·rename_i s h
   have := loopR_inv (b := zzb_b1 a n) (fun i s => -1 ≤ s ∧ s ≤ n - a.length ∧ ∀ j, j < i → smCorrection (a.getD j default)) ⟨by omega, by omega, by intro j hj; omega⟩ (by
    intro j u v h1 h2 ⟨h3, h4, h5⟩ h6
    simp only [zzb_b1] at h6
    have hb : bwCorrection (a.getD j default) := bd_getD hx (by decide) j
    have hf := zde_facts (a.getD j default) u h3 (by omega) hb
    cases hq : decide (zde (a.getD j default) u < 0) with
    | true => rw [hq] at h6; simp at h6
    | false =>
     rw [hq] at h6
     simp only [cond_false, Except.ok.injEq] at h6
     subst h6
     refine ⟨by omega, by omega, fun q hq2 => ?_⟩
     by_cases hqj : q = j
     ·subst hqj; exact hf.2.2 (of_decide_eq_false hq)
     ·exact h5 q (by omega)) h
   refine ⟨by omega, by omega, fun _ => ⟨by omega, fun v hv => ?_⟩⟩
   obtain ⟨i, hi, rfl⟩ := List.getElem_of_mem hv
   have := this.2.2 i (by omega)
   simpa [List.getD_eq_getElem?_getD, hi] using this
end Go.Ab

namespace Go.Ab
open Go Go.Proofs
def zph (a0 : (List Aid)) (a1 : (List Correction)) : Bool :=
 (bif decide ((zg a0 1048576) < 0) then true else (bif decide ((zzb a1 (zg a0 1048576)) < 0) then true else (bif ((!(zw ((zab (zb a0) (zy a1)).1) ((zpb (zb a0) (zy a1)).1))) || (((zab (zb a0) (zy a1)).2) != ((zpb (zb a0) (zy a1)).2))) then false else (bif (!(zw (zb a0) (zb a0))) then false else (bif (!(zsb (zy a1) (zy a1))) then false else (bif ((decide (((zyb (zy a1) ((zt (zb a0) 1).1)).1) < 0) || (!(zw ((zab (zb a0) (zy a1)).1) ((zpb (zb a0) (zy a1)).1)))) || (((zab (zb a0) (zy a1)).2) != ((zpb (zb a0) (zy a1)).2))) then false else (bif decide ((zvb ((zt ((zab (zb a0) (zy a1)).1) 1).2) 1) < 0) then false else (bif ((zvb ((zt ((zab (zb a0) (zy a1)).1) 1).2) 1) != ((zt ((zab (zb a0) (zy a1)).1) 1).1)) then false else true))))))))
namespace N10
theorem DD : DOk Tryz.prog (Go.Ab.DD [(22, dP D_zg), (24, dP D_zb), (26, dP D_zsb), (27, dP D_zw), (37, dP D_zvb), (58, dP D_zzb), (59, dP D_zpb), (60, dP D_zy), (61, dP D_zab)]) := DD_cons D_zg_ok.e <| DD_cons D_zb_ok.e <| DD_cons D_zsb_ok.e <| DD_cons D_zw_ok.e <| DD_cons D_zvb_ok.e <| DD_cons D_zzb_ok.e <| DD_cons D_zpb_ok.e <| DD_cons D_zy_ok.e <| DD_cons D_zab_ok.e <| DD_nil _
theorem dn : type_of% (And.intro @D_zg.eq_1 <| And.intro @D_zb.eq_1 <| And.intro @D_zsb.eq_1 <| And.intro @D_zw.eq_1 <| And.intro @D_zvb.eq_1 <| And.intro @D_zzb.eq_1 <| And.intro @D_zpb.eq_1 <| And.intro @D_zy.eq_1 <| And.intro @D_zab.eq_1 <| And.intro @markAidS_sub <| And.intro @markCorrectionS_sub <| @markAidS_sub) := And.intro @D_zg.eq_1 <| And.intro @D_zb.eq_1 <| And.intro @D_zsb.eq_1 <| And.intro @D_zw.eq_1 <| And.intro @D_zvb.eq_1 <| And.intro @D_zzb.eq_1 <| And.intro @D_zpb.eq_1 <| And.intro @D_zy.eq_1 <| And.intro @D_zab.eq_1 <| And.intro @markAidS_sub <| And.intro @markCorrectionS_sub <| @markAidS_sub
theorem ol : type_of% (And.intro @zb_id <| And.intro @markAidS_len <| And.intro @markCorrectionS_len <| @zy_id) := And.intro @zb_id <| And.intro @markAidS_len <| And.intro @markCorrectionS_len <| @zy_id
theorem gr {p : Prop} (h : p := by (grind [markAidS_le, markCorrectionS_le, markAidS_le]); first | done | fail) : p := h
theorem o1 {p : Prop} (h : p := by (first | (exact mrg) | (exact markAidS_le _ _ (by exact mrg)) | ((try simp only [ol]); first | (have h9 := hG0 (by assumption); first | exact h9.2 | exact h9.1 | omega) | (have h9 := hG1 (by assumption); first | exact h9.2 | exact h9.1 | omega))); first | done | fail) : p := h
set_option maxHeartbeats 4000000 in
set_option maxRecDepth 20000 in
theorem _root_.Go.Ab.zph_den (a0 : (List Aid)) (a1 : (List Correction))  : Den Tryz.prog 10 [encL 16 eAid a0, encL 17 eCorrection a1] (.bool (zph a0 a1)) := by
 generalize hR : zph a0 a1 = r
 unfold zph at hR
 refine den_introL G_ok Tryz.func10 (by kernel_rfl) rfl Tryz.ntmps10 (by rw [Tryz.results10]) (by simp) rfl ?_
 intro c u hdp hlit hL hc hk
 obtain ⟨hL0, hL1, _⟩ := hL
 have hw0 : a0.length < 9223372036854775808 := Nat.lt_succ_of_le (lens_encL hL0).1
 have hw1 : ∀ v ∈ a0, bwAid v := fun v hv => Aid_lens v ((lens_encL hL0).2 v hv)
 have hw2 : a1.length < 9223372036854775808 := Nat.lt_succ_of_le (lens_encL hL1).1
 have hw3 : ∀ v ∈ a1, bwCorrection v := fun v hv => Correction_lens v ((lens_encL hL1).2 v hv)
 clear hL0 hL1
 simp only [litN, lit1, litR, encL, sv, Nat.zero_add] at hlit
 simp only [litN, lit1, encL, sv, pars, Nat.zero_add, Nat.reduceAdd]
 have hf0 := zg_facts a0 (1048576) (by omega) (by omega) hw0 hw1
 have hf1 := zzb_facts a1 (zg a0 (1048576)) (by omega) (by omega) hw2 hw3
 have hG0 : decide (zg a0 (1048576) < 0) = false → a0.length ≤ 1048576 ∧ ∀ x ∈ a0, bdAid x := fun h => ⟨(hf0.2.2 (of_decide_eq_false h)).1, fun x hx => smAid_bd x ((hf0.2.2 (of_decide_eq_false h)).2 x hx)⟩
 have hG1 : decide (zzb a1 (zg a0 (1048576)) < 0) = false → a1.length ≤ 1048576 ∧ ∀ x ∈ a1, bdCorrection x := fun h => ⟨(hf1.2.2 (of_decide_eq_false h)).1, fun x hx => smCorrection_bd x ((hf1.2.2 (of_decide_eq_false h)).2 x hx)⟩
 iterate 4 refine rS ?_
 refine AWP.cond rfl (fun hb => ?_) (fun hb => ?_)
 ·replace hR := ct hR
  refine rS ?_
  refine AWP.ret ?_
  subst hR
  exact es
 ·replace hR := cf hR
  iterate 2 refine rS ?_
  refine AWP.cond rfl (fun hb => ?_) (fun hb => ?_)
  ·replace hR := ct hR
   refine rS ?_
   refine AWP.ret ?_
   subst hR
   exact es
  ·replace hR := cf hR
   iterate 5 refine rS ?_
   refine AWP.cond rfl (fun hb => ?_) (fun hb => ?_)
   ·replace hR := ct hR
    refine rS ?_
    refine AWP.ret ?_
    subst hR
    exact es
   ·replace hR := cf hR
    refine rS ?_
    refine AWP.cond rfl (fun hb => ?_) (fun hb => ?_)
    ·replace hR := ct hR
     refine rS ?_
     refine AWP.ret ?_
     subst hR
     exact es
    ·replace hR := cf hR
     refine rS ?_
     refine AWP.cond rfl (fun hb => ?_) (fun hb => ?_)
     ·replace hR := ct hR
      refine rS ?_
      refine AWP.ret ?_
      subst hR
      exact es
     ·replace hR := cf hR
      refine rS ?_
      refine AWP.seq ?_
      refine rX 2 (N28.den (zb a0) 1 ot) ?_
      refine AWP.seq ?_
      refine rX 2 (N29.den (zy a1) ((zt (zb a0) 1).1) ot) ?_
      refine rS ?_
      refine AWP.cond rfl (fun hb => ?_) (fun hb => ?_)
      ·replace hR := ct hR
       refine rS ?_
       refine AWP.ret ?_
       subst hR
       exact es
      ·replace hR := cf hR
       refine rS ?_
       refine AWP.seq ?_
       refine rX 2 (N28.den ((zab (zb a0) (zy a1)).1) 1 ot) ?_
       iterate 3 refine rS ?_
       refine AWP.cond rfl (fun hb => ?_) (fun hb => ?_)
       ·replace hR := ct hR
        refine rS ?_
        refine AWP.ret ?_
        subst hR
        exact es
       ·replace hR := cf hR
        refine rS ?_
        refine AWP.cond rfl (fun hb => ?_) (fun hb => ?_)
        ·replace hR := ct hR
         refine rS ?_
         refine AWP.ret ?_
         subst hR
         exact es
        ·replace hR := cf hR
         iterate 2 refine rS ?_
         refine AWP.cond rfl (fun hb => ?_) (fun hb => ?_)
         ·exfalso; simp_all
         ·refine rS ?_
          iterate 2 refine rS ?_
          refine AWP.cond rfl (fun hb => ?_) (fun hb => ?_)
          ·exfalso; simp_all
          ·refine rS ?_
           refine AWP.cond rfl (fun hb => ?_) (fun hb => ?_)
           ·exfalso; simp_all
           ·refine rS ?_
            refine AWP.ret ?_
            subst hR
            exact es
end N10
end Go.Ab

namespace Go.Ab
open Go Go.Proofs
theorem law_PatchAids (a0 : List Aid) (a1 : List Correction) (hl : a0.length < 9223372036854775808) (hv : ∀ v ∈ a0, bwAid v) (hl1 : a1.length < 9223372036854775808) (hv1 : ∀ v ∈ a1, bwCorrection v) : zph a0 a1 = true := by
 unfold zph
 have f0 := zg_facts a0 1048576 (by omega) (by omega) hl hv
 by_cases c0 : zg a0 1048576 < 0
 ·rw [decide_eq_true c0]; rfl
 rw [decide_eq_false c0]
 have f1 := zzb_facts a1 (zg a0 1048576) (by omega) (by omega) hl1 hv1
 by_cases c1 : zzb a1 (zg a0 1048576) < 0
 ·rw [decide_eq_true c1]; rfl
 rw [decide_eq_false c1]
 simp only [cond_false]
 obtain ⟨g0, g1⟩ := f0.2.2 c0
 obtain ⟨k0, k1⟩ := f1.2.2 c1
 simp only [zb_id, zy_id, zw_dec, zsb_dec]
 have hp0 : ∀ v ∈ a0, aidP v := fun v h => aidP_of (hv v h) (g1 v h)
 have hp1 : ∀ n ∈ a1, aidP n.Aid := fun n h => aidP_of (hv1 n h) (k1 n h)
 obtain ⟨e1, e2, e3⟩ := patchAids_eq aidP aidP_L a0 a1 hp0 hp1
 rw [e1]
 have hm := heldAidS_mark (zpb a0 a1).1 1 (fun v h => (e2 v h).2) (by omega) (by omega) (by omega)
 have hk := markAidS_rng a0 1 (fun v h => (hp0 v h).2) g0 (by omega) (by omega)
 have hk2 := markCorrectionS_rng a1 (zt a0 1).1 (fun v h => (hp1 v h).2) k0 (by omega) (by omega)
 rw [hm.1, decide_eq_false hm.2, decide_eq_false (show ¬ (zyb a1 (zt a0 1).1).1 < 0 by omega)]
 simp
end Go.Ab
