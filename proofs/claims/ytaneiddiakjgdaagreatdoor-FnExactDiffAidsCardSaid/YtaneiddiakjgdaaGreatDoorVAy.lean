/- A part of a proof: walks of functions and lemmas of our own. No conditions. -/
import Derived.Test.YtaneiddiakjgdaaGreatDoorVAl
import Derived.Test.YtaneiddiakjgdaaGreatDoorVAw
import Derived.Test.YtaneiddiakjgdaaGreatDoorVAq
set_option linter.unusedSectionVars false
set_option linter.unusedVariables false
set_option linter.unusedSimpArgs false
set_option maxHeartbeats 1000000
namespace Go.Ab
open Go Go.Proofs
def zdb_b1 (a0 : (List Aid)) (a1 : (List Aid)) (i1 : Nat) (s1 : List Correction) : Except ((List Correction)) (List Correction) :=
 (bif decide ((zh a1 ((a0.getD i1 default).Number)) < 0) then .ok (s1 ++ [{ Kind := 1, Aid := zfc (a0.getD i1 default) : Correction }]) else .ok s1)
def zdb_b2 (a0 : (List Aid)) (a1 : (List Aid)) (s1 : List Correction) (i2 : Nat) (s2 : List Correction) : Except ((List Correction)) (List Correction) :=
 (bif decide ((zh a0 ((a1.getD i2 default).Number)) < 0) then .ok (s2 ++ [{ Kind := 2, Aid := zfc (a1.getD i2 default) : Correction }]) else (bif (!(zhb (a0.getD (((zh a0 ((a1.getD i2 default).Number))).toNat) default) (a1.getD i2 default))) then .ok (s2 ++ [{ Kind := 3, Aid := zfc (a1.getD i2 default) : Correction }]) else .ok s2))
def zdb (a0 : (List Aid)) (a1 : (List Aid)) : (List Correction) :=
 (match loopR (zdb_b1 a0 a1) (a0.length - 0) 0 ([] : List Correction) with | .error e => e | .ok s1 => (match loopR (zdb_b2 a0 a1 s1) (a1.length - 0) 0 s1 with | .error e => e | .ok s2 => s2))
namespace N78
theorem DD : DOk Tryz.prog (Go.Ab.DD [(105, dP D_zhb), (106, dP D_zfc), (142, dP D_zh)]) := DD_cons D_zhb_ok.e <| DD_cons D_zfc_ok.e <| DD_cons D_zh_ok.e <| DD_nil _
theorem dn : type_of% (And.intro @D_zhb.eq_1 <| And.intro @D_zfc.eq_1 <| @D_zh.eq_1) := by and_intros <;> intros <;> rfl
theorem gr {p : Prop} (h : p := by (grind [zh_lt]); first | done | fail) : p := h
theorem o1 {p : Prop} (h : p := by (first | (have h9 := hix ((a1.getD i2 default).Number); (try simp only [ob, ln, ol] at *); omega)); first | done | fail) : p := h
theorem o2 {p : Prop} (h : p := by (first | (and_intros <;> first | rfl | decide | (rw [IntKind.wrap_i64]; omega) | (simp only [List.length_append, List.length_singleton]; (first | done | fail)) | (intro j hj; by_cases hji : j < s1.length; (focus (simp only [app_lt hji, blt_t hji, cond_true]; first | (first | done | fail) | rfl | (and_intros <;> rfl))); (simp only [app_eq hji hj, blt_f hji, cond_false]; first | (first | done | fail) | rfl | (and_intros <;> rfl))) | (intro j hj; by_cases hji : j < s2.length; (focus (simp only [app_lt hji, blt_t hji, cond_true]; first | (first | done | fail) | rfl | (and_intros <;> rfl))); (simp only [app_eq hji hj, blt_f hji, cond_false]; first | (first | done | fail) | rfl | (and_intros <;> rfl))))); first | done | fail) : p := h
set_option maxHeartbeats 2000000 in
set_option maxRecDepth 20000 in
theorem den (a0 : (List Aid)) (a1 : (List Aid)) (hb0 : a0.length < 1099511627776) (hb1 : ∀ v ∈ a0, bdAid v) (hb2 : a1.length < 1099511627776) (hb3 : ∀ v ∈ a1, bdAid v) (hp0 : a0.length ≤ 1073741824) (hp1 : a1.length ≤ 1073741824) : Den Tryz.prog 78 [encL 16 eAid a0, encL 16 eAid a1] (ownL 119 17 eCorrectionO (zdb a0 a1)) := by
 generalize hR : zdb a0 a1 = r
 unfold zdb at hR
 refine di Tryz.func78 Tryz.ntmps78 Tryz.results78 ?_
 intro c hL hc hk
 obtain ⟨hL0, hL1, _⟩ := hL
 have hw0 : a0.length < 9223372036854775808 := Nat.lt_succ_of_le (lens_encL hL0).1
 have hw1 : ∀ v ∈ a0, bwAid v := fun v hv => Aid_lens v ((lens_encL hL0).2 v hv)
 have hw2 : a1.length < 9223372036854775808 := Nat.lt_succ_of_le (lens_encL hL1).1
 have hw3 : ∀ v ∈ a1, bwAid v := fun v hv => Aid_lens v ((lens_encL hL1).2 v hv)
 clear hL0 hL1
 simp only [pars, Nat.zero_add]
 have hix := zh_lt a0
 iterate 3 refine rS ?_
 refine AWP.block ?_
 generalize hz1 : loopR (zdb_b1 a0 a1) (a0.length - 0) 0 ([] : List Correction) = z1 at hR
 refine AWP.range (zdb_b1 a0 a1) (fun i1 s1 => ⟨[(0, encL 16 eAid a0), (1, encL 16 eAid a1), (5, .ref 0 17 0 s1.length), (6, .int .i64 (i1 : Int))], [.arr 119 17 s1.length (fun j => eCorrectionO (s1.getD j default))]⟩) (fun i1 s1 => s1.length ≤ ([] : List Correction).length + 1 * i1) (a0.length) 0 ([] : List Correction) [0] hz1 ot wt sm ?_
 clear hz1
 intro i1 s1 hi1 hW1 hz1
 refine rS ?_
 refine AWP.cond rfl (fun hb => ?_) (fun hb => ?_)
 ·have hlt1 : i1 < a0.length := ot
  rw [loopR_lt hlt1] at hz1; simp only [zdb_b1] at hz1
  refine rS ?_
  refine AWP.cond rfl (fun hb => ?_) (fun hb => ?_)
  ·simp only [hb, cond_true] at hz1
   iterate 2 refine rS ?_
   exact ⟨_, [4], hlt1, wt, hz1, sm⟩
  ·simp only [hb, cond_false] at hz1
   refine rS ?_
   exact ⟨_, [0], hlt1, wt, hz1, sm⟩
 ·obtain rfl : i1 = a0.length := ot
  rw [loopR_ge (Nat.le_refl _)] at hz1; subst hz1; dsimp only at hR
  refine AWP.exit ?_; refine exitTo_here ?_
  refine rS ?_
  refine AWP.block ?_
  generalize hz2 : loopR (zdb_b2 a0 a1 s1) (a1.length - 0) 0 s1 = z2 at hR
  refine AWP.range (zdb_b2 a0 a1 s1) (fun i2 s2 => ⟨[(0, encL 16 eAid a0), (1, encL 16 eAid a1), (5, .ref 0 17 0 s2.length), (7, .int .i64 (i2 : Int))], [.arr 119 17 s2.length (fun j => eCorrectionO (s2.getD j default))]⟩) (fun i2 s2 => s2.length ≤ s1.length + 1 * i2) (a1.length) 0 s1 [0] hz2 ot wt sm ?_
  clear hz2
  intro i2 s2 hi2 hW2 hz2
  refine rS ?_
  refine AWP.cond rfl (fun hb => ?_) (fun hb => ?_)
  ·have hlt2 : i2 < a1.length := ot
   rw [loopR_lt hlt2] at hz2; simp only [zdb_b2] at hz2
   iterate 2 refine rS ?_
   refine AWP.cond rfl (fun hb => ?_) (fun hb => ?_)
   ·simp only [hb, cond_true] at hz2
    iterate 2 refine rS ?_
    exact ⟨_, [4], hlt2, wt, hz2, sm⟩
   ·simp only [hb, cond_false] at hz2
    refine rD 6 ?_
    refine AWP.cond rfl (fun hb => ?_) (fun hb => ?_)
    ·simp only [hb, cond_true] at hz2
     iterate 2 refine rS ?_
     exact ⟨_, [4], hlt2, wt, hz2, sm⟩
    ·simp only [hb, cond_false] at hz2
     refine rS ?_
     exact ⟨_, [0], hlt2, wt, hz2, sm⟩
  ·obtain rfl : i2 = a1.length := ot
   rw [loopR_ge (Nat.le_refl _)] at hz2; subst hz2; dsimp only at hR
   refine AWP.exit ?_; refine exitTo_here ?_
   refine rS ?_
   refine AWP.ret ?_
   subst hR
   exact es
end N78
def D_zdb : DF
 | [x0, x1] => some (ownL 119 17 eCorrectionO (zdb (rdL dAid x0) (rdL dAid x1)), false, [wL 16 eAid dAid x0, wL 16 eAid dAid x1, (rdL dAid x0).length < 1099511627776, ∀ v ∈ (rdL dAid x0), bdAid v, (rdL dAid x1).length < 1099511627776, ∀ v ∈ (rdL dAid x1), bdAid v, (rdL dAid x0).length ≤ 1073741824, (rdL dAid x1).length ≤ 1073741824])
 | _ => none
theorem D_zdb_ok : OkD Tryz.prog 78 D_zdb := by unfold D_zdb; exact dk N78.den
end Go.Ab
