/- A part of a proof: walks of functions and lemmas of our own. No conditions. -/
import Derived.Test.YtaneiddiakjgdaaGreatDoorVBa
import Derived.Test.YtaneiddiakjgdaaGreatDoorVAw
import Derived.Test.YtaneiddiakjgdaaGreatDoorVAz
import Derived.Test.YtaneiddiakjgdaaGreatDoorVAs
import Derived.Test.YtaneiddiakjgdaaGreatDoorVAp
import Derived.Test.YtaneiddiakjgdaaGreatDoorVAo
import Derived.Test.YtaneiddiakjgdaaGreatDoorVAl
import Derived.Test.YtaneiddiakjgdaaGreatDoorVAn
import Derived.Test.YtaneiddiakjgdaaGreatDoorVBb
import Derived.Test.YtaneiddiakjgdaaGreatDoorVAi
import Derived.Test.YtaneiddiakjgdaaGreatDoorVBc
set_option linter.unusedSectionVars false
set_option linter.unusedVariables false
set_option linter.unusedSimpArgs false
set_option maxHeartbeats 1000000
namespace Go.Ab
open Go Go.Proofs
theorem put_all (P : Aid → Prop) (l : List Aid) (a : Aid) (hl : l.length < 9223372036854775807) (hv : ∀ v ∈ l, P v) (ha : P a) : (∀ v ∈ (zfb l a).1, P v) ∧ (zfb l a).1.length ≤ l.length + 1 := by
 rw [l12Put_eq l a (by omega)]
 cases (decide (upto l a.Number < l.length) && ((l.getD (upto l a.Number) default).Number == a.Number)) with
 | true => exact ⟨fun v hv => by simp at hv, by simp⟩
 | false =>
  simp only [cond_false]
  cases ((l.length : Int) == 24) with
  | true => exact ⟨fun v hv => by simp at hv, by simp⟩
  | false =>
   simp only [cond_false, putA]
   refine ⟨fun v h => ?_, by simp; omega⟩
   simp only [List.mem_append, List.mem_singleton] at h
   rcases h with (h | h) | h
   ·exact hv v (List.mem_of_mem_take h)
   ·subst h; exact ha
   ·exact hv v (List.mem_of_mem_drop h)
theorem set_all {α : Type} (P : α → Prop) (l : List α) (i : Nat) (a : α) (hv : ∀ v ∈ l, P v) (ha : P a) : ∀ v ∈ l.set i a, P v := fun v h => by
 rcases List.mem_or_eq_of_mem_set h with h | h
 ·exact hv v h
 ·subst h; exact ha
theorem repl_all (P : Aid → Prop) (l : List Aid) (a : Aid) (hv : ∀ v ∈ l, P v) (ha : P a) : (∀ v ∈ (znc l a).1, P v) ∧ (znc l a).1.length ≤ l.length := by
 unfold znc
 cases decide ((zh l a.Number) < 0) with
 | true => exact ⟨fun v hv => by simp at hv, by simp⟩
 | false =>
  simp only [cond_false, ownAids_id, ownAid_id]
  exact ⟨set_all P _ _ _ hv ha, by simp⟩
theorem drop_all (P : Aid → Prop) (l : List Aid) (n : Int) (hl : l.length < 9223372036854775807) (hv : ∀ v ∈ l, P v) : (∀ v ∈ (zoc l n).1, P v) ∧ (zoc l n).1.length ≤ l.length := by
 unfold zoc
 have hf := zh_lt l n
 cases hd : decide ((zh l n) < 0) with
 | true => exact ⟨fun v hv => by simp at hv, by simp⟩
 | false =>
  have hd := of_decide_eq_false hd
  have hw : IntKind.wrap .i64 (zh l n + 1) = zh l n + 1 := by rw [IntKind.wrap_i64]; omega
  simp only [cond_false, ownAids_id, hw]
  rw [subL_take l _ (by omega), subL_drop l _ (by omega)]
  refine ⟨fun v h => ?_, by simp; omega⟩
  rcases List.mem_append.1 h with h | h
  ·exact hv v (List.mem_of_mem_take h)
  ·exact hv v (List.mem_of_mem_drop h)
theorem iadd_all (P : Aid → Prop) (l : List Aid) (a : Aid) (hl : l.length < 9223372036854775807) (hv : ∀ v ∈ l, P v) (ha : P a) : (∀ v ∈ (zsc l a).1, P v) ∧ (zsc l a).1.length ≤ 25 := by
 unfold zsc
 cases hb : ((!(zq l)) || (!(zob a))) with
 | true => exact ⟨fun v hv => by simp at hv, by simp⟩
 | false =>
  have hn := vAids_len (a := l) (by rw [Bool.or_eq_false_iff] at hb; simpa using hb.1)
  simp only [cond_false, copyAids_id, copyAid_id]
  cases (zj l a.Number).2 with
  | true => exact ⟨fun v hv => by simp at hv, by simp⟩
  | false =>
   simp only [cond_false]
   cases ((l.length : Int) == 24) with
   | true => exact ⟨fun v hv => by simp at hv, by simp⟩
   | false =>
    simp only [cond_false, zif]
    refine ⟨fun v h => ?_, by simp; omega⟩
    simp only [List.mem_append, List.mem_singleton] at h
    rcases h with (h | h) | h
    ·exact hv v (List.mem_of_mem_take h)
    ·subst h; exact ha
    ·exact hv v (List.mem_of_mem_drop h)
theorem irepl_all (P : Aid → Prop) (l : List Aid) (a : Aid) (hv : ∀ v ∈ l, P v) (ha : P a) : (∀ v ∈ (zyc l a).1, P v) ∧ (zyc l a).1.length ≤ 25 := by
 unfold zyc
 cases hb : ((!(zq l)) || (!(zob a))) with
 | true => exact ⟨fun v hv => by simp at hv, by simp⟩
 | false =>
  have hn := vAids_len (a := l) (by rw [Bool.or_eq_false_iff] at hb; simpa using hb.1)
  simp only [cond_false, copyAids_id, copyAid_id]
  cases (!(zj l a.Number).2) with
  | true => exact ⟨fun v hv => by simp at hv, by simp⟩
  | false =>
   simp only [cond_false]
   exact ⟨set_all P _ _ _ hv ha, by simp; omega⟩
theorem idrop_all (P : Aid → Prop) (l : List Aid) (n : Int) (hl : l.length < 9223372036854775807) (hv : ∀ v ∈ l, P v) : (∀ v ∈ (zzc l n).1, P v) ∧ (zzc l n).1.length ≤ 25 := by
 unfold zzc
 cases hb : (!(zq l)) with
 | true => exact ⟨fun v hv => by simp at hv, by simp⟩
 | false =>
  have hn := vAids_len (a := l) (by simpa using hb)
  simp only [cond_false, copyAids_id]
  have hf := zj_ix l n (by omega)
  have hw : IntKind.wrap .i64 ((zj l n).1 + 1) = (zj l n).1 + 1 := by rw [IntKind.wrap_i64]; omega
  cases (!(zj l n).2) with
  | true => exact ⟨fun v hv => by simp at hv, by simp⟩
  | false =>
   simp only [cond_false, zjf, hw]
   refine ⟨fun v h => ?_, by simp; omega⟩
   rcases List.mem_append.1 h with h | h
   ·exact hv v (List.mem_of_mem_take h)
   ·exact hv v (List.mem_of_mem_drop h)
end Go.Ab

namespace Go.Ab
open Go Go.Proofs
def zb_b1 (a0 : (List Aid)) (i1 : Nat) (s1 : List Aid) : Except ((List Aid)) (List Aid) :=
 .ok (s1.set i1 (zpc (a0.getD i1 default)))
def zb (a0 : (List Aid)) : (List Aid) :=
 (match loopR (zb_b1 a0) (a0.length - 0) 0 (List.replicate a0.length (default : Aid)) with | .error e => e | .ok s1 => s1)
namespace N24
theorem DD : DOk Tryz.prog (Go.Ab.DD [(33, dP D_zpc)]) := DD_cons D_zpc_ok.e <| DD_nil _
theorem dn : type_of% (@D_zpc.eq_1) := by and_intros <;> intros <;> rfl
theorem den (a0 : (List Aid)) (hb0 : a0.length < 1099511627776) (hb1 : ∀ v ∈ a0, bdAid v) (hp0 : a0.length ≤ 1048576) : Den Tryz.prog 24 [encL 16 eAid a0] (ownL 63 16 eAidO (zb a0)) := by
 generalize hR : zb a0 = r
 unfold zb at hR
 refine di Tryz.func24 Tryz.ntmps24 Tryz.results24 ?_
 intro c hL hc hk
 obtain ⟨hL0, _⟩ := hL
 have hw0 : a0.length < 9223372036854775808 := Nat.lt_succ_of_le (lens_encL hL0).1
 have hw1 : ∀ v ∈ a0, bwAid v := fun v hv => Aid_lens v ((lens_encL hL0).2 v hv)
 clear hL0
 simp only [pars, Nat.zero_add]
 iterate 2 refine rS ?_
 refine AWP.arrS 0 (fun j => eAidO ((List.replicate a0.length (default : Aid)).getD j default)) rfl zs ?_; simp only [setE]
 refine rS ?_
 refine AWP.block ?_
 generalize hz1 : loopR (zb_b1 a0) (a0.length - 0) 0 (List.replicate a0.length (default : Aid)) = z1 at hR
 refine AWP.range (zb_b1 a0) (fun i1 s1 => ⟨[(0, encL 16 eAid a0), (3, .ref 0 16 0 s1.length), (4, .int .i64 (i1 : Int))], [.arr 63 16 s1.length (fun j => eAidO (s1.getD j default))]⟩) (fun i1 s1 => s1.length = (List.replicate a0.length (default : Aid)).length) (a0.length) 0 (List.replicate a0.length (default : Aid)) [0] hz1 ot wt sm ?_
 clear hz1
 intro i1 s1 hi1 hW1 hz1
 refine rS ?_
 refine AWP.cond rfl (fun hb => ?_) (fun hb => ?_)
 ·have hlt1 : i1 < a0.length := ot
  rw [loopR_lt hlt1] at hz1; simp only [zb_b1] at hz1
  iterate 2 refine rS ?_
  exact ⟨_, [0], hlt1, wt, hz1, sm⟩
 ·obtain rfl : i1 = a0.length := ot
  rw [loopR_ge (Nat.le_refl _)] at hz1; subst hz1; dsimp only at hR
  refine AWP.exit ?_; refine exitTo_here ?_
  refine rS ?_
  refine AWP.ret ?_
  subst hR
  exact es
end N24
def D_zb : DF
 | [x0] => some (ownL 63 16 eAidO (zb (rdL dAid x0)), false, [wL 16 eAid dAid x0, (rdL dAid x0).length < 1099511627776, ∀ v ∈ (rdL dAid x0), bdAid v, (rdL dAid x0).length ≤ 1048576])
 | _ => none
theorem D_zb_ok : OkD Tryz.prog 24 D_zb := by unfold D_zb; exact dk N24.den
end Go.Ab

namespace Go.Ab
open Go Go.Proofs
theorem zb_id (a : List Aid) : zb a = a := by
 unfold zb
 rw [loopR_fill (b := zb_b1 a) (fun i => zpc (a.getD i default)) (by simp) (fun i s _ => rfl)]
 simp only [zpc_id]
 exact range_getD a
end Go.Ab

namespace Go.Ab
open Go Go.Proofs
def zw_b1 (a0 : (List Aid)) (a1 : (List Aid)) (i1 : Nat) (s1 : Unit) : Except (Bool) (Unit) :=
 (bif (!(ztc (a0.getD i1 default) (a1.getD i1 default))) then .error false else .ok ())
def zw (a0 : (List Aid)) (a1 : (List Aid)) : Bool :=
 (bif ((a0.length : Int) != (a1.length : Int)) then false else (match loopR (zw_b1 a0 a1) (a0.length - 0) 0 () with | .error e => e | .ok s1 => true))
namespace N27
theorem DD : DOk Tryz.prog (Go.Ab.DD [(35, dP D_ztc)]) := DD_cons D_ztc_ok.e <| DD_nil _
theorem dn : type_of% (@D_ztc.eq_1) := by and_intros <;> intros <;> rfl
theorem den (a0 : (List Aid)) (a1 : (List Aid))  : Den Tryz.prog 27 [encL 16 eAid a0, encL 16 eAid a1] (.bool (zw a0 a1)) := by
 generalize hR : zw a0 a1 = r
 unfold zw at hR
 refine di Tryz.func27 Tryz.ntmps27 Tryz.results27 ?_
 intro c hL hc hk
 obtain ⟨hL0, hL1, _⟩ := hL
 have hw0 : a0.length < 9223372036854775808 := Nat.lt_succ_of_le (lens_encL hL0).1
 have hw1 : ∀ v ∈ a0, bwAid v := fun v hv => Aid_lens v ((lens_encL hL0).2 v hv)
 have hw2 : a1.length < 9223372036854775808 := Nat.lt_succ_of_le (lens_encL hL1).1
 have hw3 : ∀ v ∈ a1, bwAid v := fun v hv => Aid_lens v ((lens_encL hL1).2 v hv)
 clear hL0 hL1
 simp only [pars, Nat.zero_add]
 iterate 2 refine rS ?_
 refine AWP.cond rfl (fun hb => ?_) (fun hb => ?_)
 ·replace hR := ct hR
  refine rS ?_
  refine AWP.ret ?_
  subst hR
  exact es
 ·replace hR := cf hR
  refine rS ?_
  refine AWP.block ?_
  generalize hz1 : loopR (zw_b1 a0 a1) (a0.length - 0) 0 () = z1 at hR
  refine AWP.range (zw_b1 a0 a1) (fun i1 s1 => ⟨[(0, encL 16 eAid a0), (1, encL 16 eAid a1), (5, .int .i64 (i1 : Int))], []⟩) (fun i1 s1 => True) (a0.length) 0 () [] hz1 ot wt sm ?_
  clear hz1
  intro i1 s1 hi1 hW1 hz1
  refine rS ?_
  refine AWP.cond rfl (fun hb => ?_) (fun hb => ?_)
  ·have hlt1 : i1 < a0.length := ot
   rw [loopR_lt hlt1] at hz1; simp only [zw_b1] at hz1
   refine rD 8 ?_
   refine AWP.cond rfl (fun hb => ?_) (fun hb => ?_)
   ·simp only [hb, cond_true] at hz1
    refine rS ?_
    refine AWP.ret ?_
    subst hz1
    dsimp only at hR
    subst hR
    exact es
   ·simp only [hb, cond_false] at hz1
    refine rS ?_
    exact ⟨_, [], hlt1, wt, hz1, sm⟩
  ·obtain rfl : i1 = a0.length := ot
   rw [loopR_ge (Nat.le_refl _)] at hz1; subst hz1; dsimp only at hR
   refine AWP.exit ?_; refine exitTo_here ?_
   refine rS ?_
   refine AWP.ret ?_
   subst hR
   exact es
end N27
def D_zw : DF
 | [x0, x1] => some (.bool (zw (rdL dAid x0) (rdL dAid x1)), false, [wL 16 eAid dAid x0, wL 16 eAid dAid x1])
 | _ => none
theorem D_zw_ok : OkD Tryz.prog 27 D_zw := by unfold D_zw; exact dk N27.den
end Go.Ab

namespace Go.Ab
open Go Go.Proofs
theorem zw_dec (a b : List Aid) : zw a b = decide (a = b) := by
 unfold zw
 by_cases hl : a.length = b.length
 ·have h1 : ((a.length : Int) != (b.length : Int)) = false := by simp [hl]
  rw [h1, cond_false, loopR_any (b := zw_b1 a b) (fun j => !decide (a.getD j default = b.getD j default)) false (fun j u _ _ => by simp only [zw_b1, ztc_dec])]
  simp only [Nat.sub_zero, Nat.zero_add]
  rw [any_ne a b hl]
  by_cases h : a = b <;> simp [h]
 ·have h1 : ((a.length : Int) != (b.length : Int)) = true := by simp; omega
  have h2 : ¬ a = b := fun e => hl (by rw [e])
  rw [h1, cond_true, decide_eq_false h2]
end Go.Ab

namespace Go.Ab
open Go Go.Proofs
def zg_b1 (a0 : (List Aid)) (a1 : Int) (i1 : Nat) (s1 : Int) : Except (Int) (Int) :=
 (bif decide ((zgb (a0.getD i1 default) s1) < 0) then .error (-1) else .ok (zgb (a0.getD i1 default) s1))
def zg (a0 : (List Aid)) (a1 : Int) : Int :=
 (bif decide ((IntKind.wrap .i64 (a1 - (a0.length : Int))) < 0) then (-1) else (match loopR (zg_b1 a0 a1) (a0.length - 0) 0 (IntKind.wrap .i64 (a1 - (a0.length : Int))) with | .error e => e | .ok s1 => s1))
namespace N22
theorem DD : DOk Tryz.prog (Go.Ab.DD [(31, dP D_zgb)]) := DD_cons D_zgb_ok.e <| DD_nil _
theorem dn : type_of% (@D_zgb.eq_1) := by and_intros <;> intros <;> rfl
theorem den (a0 : (List Aid)) (a1 : Int)  : Den Tryz.prog 22 [encL 16 eAid a0, .int .i64 a1] (.int .i64 (zg a0 a1)) := by
 generalize hR : zg a0 a1 = r
 unfold zg at hR
 refine di Tryz.func22 Tryz.ntmps22 Tryz.results22 ?_
 intro c hL hc hk
 obtain ⟨hL0, hL1, _⟩ := hL
 have hw0 : a0.length < 9223372036854775808 := Nat.lt_succ_of_le (lens_encL hL0).1
 have hw1 : ∀ v ∈ a0, bwAid v := fun v hv => Aid_lens v ((lens_encL hL0).2 v hv)
 clear hL0 hL1
 simp only [pars, Nat.zero_add]
 iterate 3 refine rS ?_
 refine AWP.cond rfl (fun hb => ?_) (fun hb => ?_)
 ·replace hR := ct hR
  refine rS ?_
  refine AWP.ret ?_
  subst hR
  exact es
 ·replace hR := cf hR
  refine rS ?_
  refine AWP.block ?_
  generalize hz1 : loopR (zg_b1 a0 a1) (a0.length - 0) 0 (IntKind.wrap .i64 (a1 - (a0.length : Int))) = z1 at hR
  refine AWP.range (zg_b1 a0 a1) (fun i1 s1 => ⟨[(0, encL 16 eAid a0), (1, .int .i64 s1), (5, .int .i64 (i1 : Int))], []⟩) (fun i1 s1 => True) (a0.length) 0 (IntKind.wrap .i64 (a1 - (a0.length : Int))) [] hz1 ot wt sm ?_
  clear hz1
  intro i1 s1 hi1 hW1 hz1
  refine rS ?_
  refine AWP.cond rfl (fun hb => ?_) (fun hb => ?_)
  ·have hlt1 : i1 < a0.length := ot
   rw [loopR_lt hlt1] at hz1; simp only [zg_b1] at hz1
   iterate 2 refine rS ?_
   refine AWP.cond rfl (fun hb => ?_) (fun hb => ?_)
   ·simp only [hb, cond_true] at hz1
    refine rS ?_
    refine AWP.ret ?_
    subst hz1
    dsimp only at hR
    subst hR
    exact es
   ·simp only [hb, cond_false] at hz1
    refine rS ?_
    exact ⟨_, [], hlt1, wt, hz1, sm⟩
  ·obtain rfl : i1 = a0.length := ot
   rw [loopR_ge (Nat.le_refl _)] at hz1; subst hz1; dsimp only at hR
   refine AWP.exit ?_; refine exitTo_here ?_
   refine rS ?_
   refine AWP.ret ?_
   subst hR
   exact es
end N22
def D_zg : DF
 | [x0, x1] => some (.int .i64 (zg (rdL dAid x0) (rdI x1)), false, [wL 16 eAid dAid x0, wI .i64 x1])
 | _ => none
theorem D_zg_ok : OkD Tryz.prog 22 D_zg := by unfold D_zg; exact dk N22.den
end Go.Ab

namespace Go.Ab
open Go Go.Proofs
theorem zg_facts (a : List Aid) (n : Int) (h0 : -1 ≤ n) (h1 : n ≤ 1048576) (hl : a.length < 9223372036854775808) (hx : ∀ v ∈ a, bwAid v) :
  -1 ≤ zg a n ∧ zg a n ≤ n ∧ (¬ zg a n < 0 → a.length ≤ 1048576 ∧ ∀ v ∈ a, smAid v) := by
 unfold zg
 rw [show IntKind.wrap .i64 (n - (a.length : Int)) = n - a.length from by rw [IntKind.wrap_i64]; omega]
 by_cases c : n - (a.length : Int) < 0
 ·rw [decide_eq_true c]; exact ⟨by simp, by simpa using h0, fun h => absurd (by simp) h⟩
 ·rw [decide_eq_false c]
  simp only [cond_false]
  split
  ·rename_i e h
   obtain ⟨j, t, _, _, h3⟩ := loopR_error h
   simp only [zg_b1] at h3
   have : e = -1 := by
    cases hq : decide (zgb (a.getD j default) t < 0) with
    | true => rw [hq] at h3; simpa using h3.symm
    | false => rw [hq] at h3; simp at h3
   omega
  ·rename_i s h
   have := loopR_inv (b := zg_b1 a n) (fun i s => -1 ≤ s ∧ s ≤ n - a.length ∧ ∀ j, j < i → smAid (a.getD j default)) ⟨by omega, by omega, by intro j hj; omega⟩ (by
    intro j u v h1 h2 ⟨h3, h4, h5⟩ h6
    simp only [zg_b1] at h6
    have hb : bwAid (a.getD j default) := bd_getD hx (by decide) j
    have hf := zgb_facts (a.getD j default) u h3 (by omega) hb
    cases hq : decide (zgb (a.getD j default) u < 0) with
    | true => rw [hq] at h6; simp at h6
    | false =>
     rw [hq] at h6
     simp only [cond_false, Except.ok.injEq] at h6
     subst h6
     refine ⟨by omega, by omega, fun q hq2 => ?_⟩
     by_cases hqj : q = j
     ·subst hqj; exact hf.2.2 (of_decide_eq_false hq)
     ·exact h5 q (by omega)) h
   refine ⟨by omega, by omega, fun _ => ⟨by omega, fun v hv => ?_⟩⟩
   obtain ⟨i, hi, rfl⟩ := List.getElem_of_mem hv
   have := this.2.2 i (by omega)
   simpa [List.getD_eq_getElem?_getD, hi] using this
end Go.Ab

namespace Go.Ab
open Go Go.Proofs
theorem markAidS_le (a : List Aid) (k : Int) (h : k ≤ 9223372036854775807) : (zt a k).1 ≤ 9223372036854775807 := by
 unfold zt
 obtain ⟨t, h1, h2⟩ := loopR_total (b := zt_b1 a k) (fun _ s => s.1 ≤ 9223372036854775807) (k := a.length - 0) (i := 0) (s := (k, a)) h (by
  intro j u _ _ h
  exact ⟨_, rfl, wrap_le _⟩)
 rw [h1]
 exact h2
theorem markAidS_len (a : List Aid) (k : Int) : (zt a k).2.length = a.length := by
 unfold zt
 obtain ⟨t, h1, h2⟩ := loopR_total (b := zt_b1 a k) (fun _ s => s.2.length = a.length) (k := a.length - 0) (i := 0) (s := (k, a)) rfl (by
  intro j u _ _ h
  exact ⟨_, rfl, by simpa using h⟩)
 rw [h1]
 exact h2
theorem markAidS_sub (a : List Aid) (k : Int) : subL (zt a k).2 0 a.length = (zt a k).2 := by
 rw [← markAidS_len a k]; exact subL_all _
end Go.Ab
