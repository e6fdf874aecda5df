/- A part of a proof: walks of functions and lemmas of our own. No conditions. -/
import Derived.Test.YtaneiddiakjgdaaGreatDoorVAl
import Derived.Test.YtaneiddiakjgdaaGreatDoorVBa
import Derived.Test.YtaneiddiakjgdaaGreatDoorVAy
import Derived.Test.YtaneiddiakjgdaaGreatDoorVAu
import Derived.Test.YtaneiddiakjgdaaGreatDoorVAs
import Derived.Test.YtaneiddiakjgdaaGreatDoorVAq
import Derived.Test.YtaneiddiakjgdaaGreatDoorVAn
import Derived.Test.YtaneiddiakjgdaaGreatDoorVBd
import Derived.Test.YtaneiddiakjgdaaGreatDoorVBh
import Derived.Test.YtaneiddiakjgdaaGreatDoorVBb
import Derived.Test.YtaneiddiakjgdaaGreatDoorVBg
import Derived.Test.YtaneiddiakjgdaaGreatDoorVAp
import Derived.Test.YtaneiddiakjgdaaGreatDoorVAw
set_option linter.unusedSectionVars false
set_option linter.unusedVariables false
set_option linter.unusedSimpArgs false
set_option maxHeartbeats 1000000
namespace Go.Ab
open Go Go.Proofs
def zid (a0 : (List Aid)) (a1 : (List Aid)) : ((List Correction) × Int) :=
 (bif ((!(zr a0)) || (!(zr a1))) then ([], 1) else ((zdb a0 a1), 0))
namespace N23
theorem DD : DOk Tryz.prog (Go.Ab.DD [(77, dP D_zr), (78, dP D_zdb)]) := DD_cons D_zr_ok.e <| DD_cons D_zdb_ok.e <| DD_nil _
theorem dn : type_of% (And.intro @D_zr.eq_1 <| @D_zdb.eq_1) := by and_intros <;> intros <;> rfl
theorem gr {p : Prop} (h : p := by (grind [l12Ok_len]); first | done | fail) : p := h
theorem den (a0 : (List Aid)) (a1 : (List Aid)) (hb0 : a0.length < 1099511627776) (hb1 : ∀ v ∈ a0, bdAid v) (hb2 : a1.length < 1099511627776) (hb3 : ∀ v ∈ a1, bdAid v) : Den Tryz.prog 23 [encL 16 eAid a0, encL 16 eAid a1] (.tup [ownL 119 17 eCorrectionO ((zid a0 a1).1), .int .i64 ((zid a0 a1).2)]) := by
 generalize hR : zid a0 a1 = r
 unfold zid at hR
 refine di Tryz.func23 Tryz.ntmps23 Tryz.results23 ?_
 intro c hL hc hk
 obtain ⟨hL0, hL1, _⟩ := hL
 have hw0 : a0.length < 9223372036854775808 := Nat.lt_succ_of_le (lens_encL hL0).1
 have hw1 : ∀ v ∈ a0, bwAid v := fun v hv => Aid_lens v ((lens_encL hL0).2 v hv)
 have hw2 : a1.length < 9223372036854775808 := Nat.lt_succ_of_le (lens_encL hL1).1
 have hw3 : ∀ v ∈ a1, bwAid v := fun v hv => Aid_lens v ((lens_encL hL1).2 v hv)
 clear hL0 hL1
 simp only [pars, Nat.zero_add]
 iterate 2 refine rS ?_
 refine AWP.cond rfl (fun hb => ?_) (fun hb => ?_)
 ·replace hR := ct hR
  refine rS ?_
  refine AWP.ret ?_
  subst hR
  exact es
 ·replace hR := cf hR
  refine rS ?_
  refine AWP.ret ?_
  subst hR
  exact es
end N23
def D_zid : DF
 | [x0, x1] => some (.tup [ownL 119 17 eCorrectionO ((zid (rdL dAid x0) (rdL dAid x1)).1), .int .i64 ((zid (rdL dAid x0) (rdL dAid x1)).2)], false, [wL 16 eAid dAid x0, wL 16 eAid dAid x1, (rdL dAid x0).length < 1099511627776, ∀ v ∈ (rdL dAid x0), bdAid v, (rdL dAid x1).length < 1099511627776, ∀ v ∈ (rdL dAid x1), bdAid v])
 | _ => none
theorem D_zid_ok : OkD Tryz.prog 23 D_zid := by unfold D_zid; exact dk N23.den
end Go.Ab

namespace Go.Ab
open Go Go.Proofs
def zx_b1 (a0 : (List Aid)) (a1 : (List Aid)) (i1 : Nat) (s1 : List Correction) : Except (((List Correction) × Int)) (List Correction) :=
 (bif (!((zxc a1 (a0.getD i1 default)).1)) then .ok (s1 ++ [{ Kind := 1, Aid := zdc (a0.getD i1 default) : Correction }]) else .ok s1)
def zx_b2 (a0 : (List Aid)) (a1 : (List Aid)) (s1 : List Correction) (i2 : Nat) (s2 : List Correction) : Except (((List Correction) × Int)) (List Correction) :=
 (bif (!((zxc a0 (a1.getD i2 default)).1)) then .ok (s2 ++ [{ Kind := 2, Aid := zdc (a1.getD i2 default) : Correction }]) else (bif (!((zxc a0 (a1.getD i2 default)).2)) then .ok (s2 ++ [{ Kind := 3, Aid := zdc (a1.getD i2 default) : Correction }]) else .ok s2))
def zx (a0 : (List Aid)) (a1 : (List Aid)) : ((List Correction) × Int) :=
 (bif ((!(zq a0)) || (!(zq a1))) then ([], 1) else (match loopR (zx_b1 a0 a1) (a0.length - 0) 0 ([] : List Correction) with | .error e => e | .ok s1 => (match loopR (zx_b2 a0 a1 s1) (a1.length - 0) 0 s1 with | .error e => e | .ok s2 => (s2, 0))))
namespace N25
theorem DD : DOk Tryz.prog (Go.Ab.DD [(79, dP D_zq), (80, dP D_zxc), (81, dP D_zdc)]) := DD_cons D_zq_ok.e <| DD_cons D_zxc_ok.e <| DD_cons D_zdc_ok.e <| DD_nil _
theorem dn : type_of% (And.intro @D_zq.eq_1 <| And.intro @D_zxc.eq_1 <| @D_zdc.eq_1) := by and_intros <;> intros <;> rfl
theorem gr {p : Prop} (h : p := by (grind [vAids_len]); first | done | fail) : p := h
theorem o2 {p : Prop} (h : p := by (first | (and_intros <;> first | rfl | decide | (rw [IntKind.wrap_i64]; omega) | (simp only [List.length_append, List.length_singleton]; (first | done | fail)) | (intro j hj; by_cases hji : j < s1.length; (focus (simp only [app_lt hji, blt_t hji, cond_true]; first | (first | done | fail) | rfl | (and_intros <;> rfl))); (simp only [app_eq hji hj, blt_f hji, cond_false]; first | (first | done | fail) | rfl | (and_intros <;> rfl))) | (intro j hj; by_cases hji : j < s2.length; (focus (simp only [app_lt hji, blt_t hji, cond_true]; first | (first | done | fail) | rfl | (and_intros <;> rfl))); (simp only [app_eq hji hj, blt_f hji, cond_false]; first | (first | done | fail) | rfl | (and_intros <;> rfl))))); first | done | fail) : p := h
set_option maxHeartbeats 2000000 in
set_option maxRecDepth 20000 in
theorem den (a0 : (List Aid)) (a1 : (List Aid)) (hb0 : a0.length < 1099511627776) (hb1 : ∀ v ∈ a0, bdAid v) (hb2 : a1.length < 1099511627776) (hb3 : ∀ v ∈ a1, bdAid v) : Den Tryz.prog 25 [encL 16 eAid a0, encL 16 eAid a1] (.tup [ownL 119 17 eCorrectionO ((zx a0 a1).1), .int .i64 ((zx a0 a1).2)]) := by
 generalize hR : zx a0 a1 = r
 unfold zx at hR
 refine di Tryz.func25 Tryz.ntmps25 Tryz.results25 ?_
 intro c hL hc hk
 obtain ⟨hL0, hL1, _⟩ := hL
 have hw0 : a0.length < 9223372036854775808 := Nat.lt_succ_of_le (lens_encL hL0).1
 have hw1 : ∀ v ∈ a0, bwAid v := fun v hv => Aid_lens v ((lens_encL hL0).2 v hv)
 have hw2 : a1.length < 9223372036854775808 := Nat.lt_succ_of_le (lens_encL hL1).1
 have hw3 : ∀ v ∈ a1, bwAid v := fun v hv => Aid_lens v ((lens_encL hL1).2 v hv)
 clear hL0 hL1
 simp only [pars, Nat.zero_add]
 iterate 2 refine rS ?_
 refine AWP.cond rfl (fun hb => ?_) (fun hb => ?_)
 ·replace hR := ct hR
  refine rS ?_
  refine AWP.ret ?_
  subst hR
  exact es
 ·replace hR := cf hR
  iterate 2 refine rS ?_
  refine AWP.block ?_
  generalize hz1 : loopR (zx_b1 a0 a1) (a0.length - 0) 0 ([] : List Correction) = z1 at hR
  refine AWP.range (zx_b1 a0 a1) (fun i1 s1 => ⟨[(0, encL 16 eAid a0), (1, encL 16 eAid a1), (6, .ref 0 17 0 s1.length), (24, encL 16 eAid a0), (25, .int .i64 (a0.length : Int)), (26, .int .i64 (i1 : Int))], [.arr 119 17 s1.length (fun j => eCorrectionO (s1.getD j default))]⟩) (fun i1 s1 => s1.length ≤ ([] : List Correction).length + 1 * i1) (a0.length) 0 ([] : List Correction) [0] hz1 ot wt sm ?_
  clear hz1
  intro i1 s1 hi1 hW1 hz1
  refine rS ?_
  refine AWP.seq ?_
  refine AWP.cond rfl (fun hb => ?_) (fun hb => ?_)
  ·have hlt1 : i1 < a0.length := ot
   rw [loopR_lt hlt1] at hz1; simp only [zx_b1] at hz1
   iterate 3 refine rS ?_
   refine AWP.cond rfl (fun hb => ?_) (fun hb => ?_)
   ·simp only [hb, cond_true] at hz1
    iterate 2 refine rS ?_
    exact ⟨_, [5], hlt1, wt, hz1, sm⟩
   ·simp only [hb, cond_false] at hz1
    refine rS ?_
    exact ⟨_, [0], hlt1, wt, hz1, sm⟩
  ·obtain rfl : i1 = a0.length := ot
   rw [loopR_ge (Nat.le_refl _)] at hz1; subst hz1; dsimp only at hR
   refine AWP.exit ?_; refine exitTo_here ?_
   refine rS ?_
   refine AWP.block ?_
   generalize hz2 : loopR (zx_b2 a0 a1 s1) (a1.length - 0) 0 s1 = z2 at hR
   refine AWP.range (zx_b2 a0 a1 s1) (fun i2 s2 => ⟨[(0, encL 16 eAid a0), (6, .ref 0 17 0 s2.length), (45, encL 16 eAid a1), (46, .int .i64 (a1.length : Int)), (47, .int .i64 (i2 : Int))], [.arr 119 17 s2.length (fun j => eCorrectionO (s2.getD j default))]⟩) (fun i2 s2 => s2.length ≤ s1.length + 1 * i2) (a1.length) 0 s1 [0] hz2 ot wt sm ?_
   clear hz2
   intro i2 s2 hi2 hW2 hz2
   refine rS ?_
   refine AWP.seq ?_
   refine AWP.cond rfl (fun hb => ?_) (fun hb => ?_)
   ·have hlt2 : i2 < a1.length := ot
    rw [loopR_lt hlt2] at hz2; simp only [zx_b2] at hz2
    iterate 3 refine rS ?_
    refine AWP.cond rfl (fun hb => ?_) (fun hb => ?_)
    ·simp only [hb, cond_true] at hz2
     iterate 2 refine rS ?_
     exact ⟨_, [5], hlt2, wt, hz2, sm⟩
    ·simp only [hb, cond_false] at hz2
     refine rS ?_
     refine AWP.cond rfl (fun hb => ?_) (fun hb => ?_)
     ·simp only [hb, cond_true] at hz2
      iterate 2 refine rS ?_
      exact ⟨_, [5], hlt2, wt, hz2, sm⟩
     ·simp only [hb, cond_false] at hz2
      refine rS ?_
      exact ⟨_, [0], hlt2, wt, hz2, sm⟩
   ·obtain rfl : i2 = a1.length := ot
    rw [loopR_ge (Nat.le_refl _)] at hz2; subst hz2; dsimp only at hR
    refine AWP.exit ?_; refine exitTo_here ?_
    refine rS ?_
    refine AWP.ret ?_
    subst hR
    exact es
end N25
def D_zx : DF
 | [x0, x1] => some (.tup [ownL 119 17 eCorrectionO ((zx (rdL dAid x0) (rdL dAid x1)).1), .int .i64 ((zx (rdL dAid x0) (rdL dAid x1)).2)], false, [wL 16 eAid dAid x0, wL 16 eAid dAid x1, (rdL dAid x0).length < 1099511627776, ∀ v ∈ (rdL dAid x0), bdAid v, (rdL dAid x1).length < 1099511627776, ∀ v ∈ (rdL dAid x1), bdAid v])
 | _ => none
theorem D_zx_ok : OkD Tryz.prog 25 D_zx := by unfold D_zx; exact dk N25.den
end Go.Ab

namespace Go.Ab
open Go Go.Proofs
def znh (a0 : (List Aid)) (a1 : (List Aid)) : Bool :=
 (bif decide ((zg a0 1048576) < 0) then true else (bif decide ((zg a1 (zg a0 1048576)) < 0) then true else (bif ((!(zsb ((zx (zb a0) (zb a1)).1) ((zid (zb a0) (zb a1)).1))) || (((zx (zb a0) (zb a1)).2) != ((zid (zb a0) (zb a1)).2))) then false else (bif (!(zw (zb a0) (zb a0))) then false else (bif (!(zw (zb a1) (zb a1))) then false else (bif ((decide (((zt (zb a1) ((zt (zb a0) 1).1)).1) < 0) || (!(zsb ((zx (zb a0) (zb a1)).1) ((zid (zb a0) (zb a1)).1)))) || (((zx (zb a0) (zb a1)).2) != ((zid (zb a0) (zb a1)).2))) then false else (bif decide ((zgd ((zyb ((zx (zb a0) (zb a1)).1) 1).2) 1) < 0) then false else (bif ((zgd ((zyb ((zx (zb a0) (zb a1)).1) 1).2) 1) != ((zyb ((zx (zb a0) (zb a1)).1) 1).1)) then false else true))))))))
namespace N4
theorem DD : DOk Tryz.prog (Go.Ab.DD [(22, dP D_zg), (23, dP D_zid), (24, dP D_zb), (25, dP D_zx), (26, dP D_zsb), (27, dP D_zw), (30, dP D_zgd)]) := DD_cons D_zg_ok.e <| DD_cons D_zid_ok.e <| DD_cons D_zb_ok.e <| DD_cons D_zx_ok.e <| DD_cons D_zsb_ok.e <| DD_cons D_zw_ok.e <| DD_cons D_zgd_ok.e <| DD_nil _
theorem dn : type_of% (And.intro @D_zg.eq_1 <| And.intro @D_zid.eq_1 <| And.intro @D_zb.eq_1 <| And.intro @D_zx.eq_1 <| And.intro @D_zsb.eq_1 <| And.intro @D_zw.eq_1 <| And.intro @D_zgd.eq_1 <| And.intro @markAidS_sub <| And.intro @markCorrectionS_sub <| @markCorrectionS_sub) := And.intro @D_zg.eq_1 <| And.intro @D_zid.eq_1 <| And.intro @D_zb.eq_1 <| And.intro @D_zx.eq_1 <| And.intro @D_zsb.eq_1 <| And.intro @D_zw.eq_1 <| And.intro @D_zgd.eq_1 <| And.intro @markAidS_sub <| And.intro @markCorrectionS_sub <| @markCorrectionS_sub
theorem ol : type_of% (And.intro @zb_id <| And.intro @markAidS_len <| @markCorrectionS_len) := And.intro @zb_id <| And.intro @markAidS_len <| @markCorrectionS_len
theorem gr {p : Prop} (h : p := by (grind [markAidS_le, markCorrectionS_le, markCorrectionS_le]); first | done | fail) : p := h
theorem o1 {p : Prop} (h : p := by (first | (exact mrg) | (exact markAidS_le _ _ (by exact mrg)) | (exact markAidS_le _ _ (markAidS_le _ _ (by exact mrg))) | ((try simp only [ol]); first | (have h9 := hG0 (by assumption); first | exact h9.2 | exact h9.1 | omega) | (have h9 := hG1 (by assumption); first | exact h9.2 | exact h9.1 | omega))); first | done | fail) : p := h
set_option maxHeartbeats 4000000 in
set_option maxRecDepth 20000 in
theorem _root_.Go.Ab.znh_den (a0 : (List Aid)) (a1 : (List Aid))  : Den Tryz.prog 4 [encL 16 eAid a0, encL 16 eAid a1] (.bool (znh a0 a1)) := by
 generalize hR : znh a0 a1 = r
 unfold znh at hR
 refine den_introL G_ok Tryz.func4 (by kernel_rfl) rfl Tryz.ntmps4 (by rw [Tryz.results4]) (by simp) rfl ?_
 intro c u hdp hlit hL hc hk
 obtain ⟨hL0, hL1, _⟩ := hL
 have hw0 : a0.length < 9223372036854775808 := Nat.lt_succ_of_le (lens_encL hL0).1
 have hw1 : ∀ v ∈ a0, bwAid v := fun v hv => Aid_lens v ((lens_encL hL0).2 v hv)
 have hw2 : a1.length < 9223372036854775808 := Nat.lt_succ_of_le (lens_encL hL1).1
 have hw3 : ∀ v ∈ a1, bwAid v := fun v hv => Aid_lens v ((lens_encL hL1).2 v hv)
 clear hL0 hL1
 simp only [litN, lit1, litR, encL, sv, Nat.zero_add] at hlit
 simp only [litN, lit1, encL, sv, pars, Nat.zero_add, Nat.reduceAdd]
 have hf0 := zg_facts a0 (1048576) (by omega) (by omega) hw0 hw1
 have hf1 := zg_facts a1 (zg a0 (1048576)) (by omega) (by omega) hw2 hw3
 have hG0 : decide (zg a0 (1048576) < 0) = false → a0.length ≤ 1048576 ∧ ∀ x ∈ a0, bdAid x := fun h => ⟨(hf0.2.2 (of_decide_eq_false h)).1, fun x hx => smAid_bd x ((hf0.2.2 (of_decide_eq_false h)).2 x hx)⟩
 have hG1 : decide (zg a1 (zg a0 (1048576)) < 0) = false → a1.length ≤ 1048576 ∧ ∀ x ∈ a1, bdAid x := fun h => ⟨(hf1.2.2 (of_decide_eq_false h)).1, fun x hx => smAid_bd x ((hf1.2.2 (of_decide_eq_false h)).2 x hx)⟩
 iterate 4 refine rS ?_
 refine AWP.cond rfl (fun hb => ?_) (fun hb => ?_)
 ·replace hR := ct hR
  refine rS ?_
  refine AWP.ret ?_
  subst hR
  exact es
 ·replace hR := cf hR
  iterate 2 refine rS ?_
  refine AWP.cond rfl (fun hb => ?_) (fun hb => ?_)
  ·replace hR := ct hR
   refine rS ?_
   refine AWP.ret ?_
   subst hR
   exact es
  ·replace hR := cf hR
   iterate 5 refine rS ?_
   refine AWP.cond rfl (fun hb => ?_) (fun hb => ?_)
   ·replace hR := ct hR
    refine rS ?_
    refine AWP.ret ?_
    subst hR
    exact es
   ·replace hR := cf hR
    refine rS ?_
    refine AWP.cond rfl (fun hb => ?_) (fun hb => ?_)
    ·replace hR := ct hR
     refine rS ?_
     refine AWP.ret ?_
     subst hR
     exact es
    ·replace hR := cf hR
     refine rS ?_
     refine AWP.cond rfl (fun hb => ?_) (fun hb => ?_)
     ·replace hR := ct hR
      refine rS ?_
      refine AWP.ret ?_
      subst hR
      exact es
     ·replace hR := cf hR
      refine rS ?_
      refine AWP.seq ?_
      refine rX 2 (N28.den (zb a0) 1 ot) ?_
      refine AWP.seq ?_
      refine rX 2 (N28.den (zb a1) ((zt (zb a0) 1).1) ot) ?_
      refine rS ?_
      refine AWP.cond rfl (fun hb => ?_) (fun hb => ?_)
      ·replace hR := ct hR
       refine rS ?_
       refine AWP.ret ?_
       subst hR
       exact es
      ·replace hR := cf hR
       refine rS ?_
       refine AWP.seq ?_
       refine rX 2 (N29.den ((zx (zb a0) (zb a1)).1) 1 ot) ?_
       iterate 3 refine rS ?_
       refine AWP.cond rfl (fun hb => ?_) (fun hb => ?_)
       ·replace hR := ct hR
        refine rS ?_
        refine AWP.ret ?_
        subst hR
        exact es
       ·replace hR := cf hR
        refine rS ?_
        refine AWP.cond rfl (fun hb => ?_) (fun hb => ?_)
        ·replace hR := ct hR
         refine rS ?_
         refine AWP.ret ?_
         subst hR
         exact es
        ·replace hR := cf hR
         iterate 2 refine rS ?_
         refine AWP.cond rfl (fun hb => ?_) (fun hb => ?_)
         ·exfalso; simp_all
         ·refine rS ?_
          iterate 2 refine rS ?_
          refine AWP.cond rfl (fun hb => ?_) (fun hb => ?_)
          ·exfalso; simp_all
          ·refine rS ?_
           refine AWP.cond rfl (fun hb => ?_) (fun hb => ?_)
           ·exfalso; simp_all
           ·refine rS ?_
            refine AWP.ret ?_
            subst hR
            exact es
end N4
end Go.Ab

namespace Go.Ab
open Go Go.Proofs
theorem diff_eq (a b : List Aid) (ha : ∀ v ∈ a, aidL v) (hb : ∀ v ∈ b, aidL v) : zx a b = zid a b := by
 unfold zx zid
 rw [validAids_eq a ha, validAids_eq b hb]
 cases hk : zr a with
 | false => rfl
 | true =>
  cases hk2 : zr b with
  | false => rfl
  | true =>
   simp only [Bool.not_true, Bool.or_false, cond_false]
   have oa := (okA_iff a).1 hk
   have ob := (okA_iff b).1 hk2
   have la := oa.2.2
   have lb := ob.2.2
   unfold zdb
   have e1 : ∀ j s, zx_b1 a b j s = bif !(hasN b (a.getD j default).Number) then .ok (s ++ [{ Kind := 1, Aid := a.getD j default : Correction }]) else .ok s := fun j s => by
    simp only [zx_b1, hasAid_eq b _ (show b.length < 9223372036854775808 by omega), copyAid_id]
   have f1 : ∀ j s, zdb_b1 a b j s = bif !(hasN b (a.getD j default).Number) then .ok (s ++ [{ Kind := 1, Aid := a.getD j default : Correction }]) else .ok s := fun j s => by
    simp only [zdb_b1, find_eq b _ ob.2.1, ownAid_id]
    cases hasN b (a.getD j default).Number with
    | true => simp only [cond_true, Bool.not_true, cond_false]; rw [decide_eq_false (by omega)]; rfl
    | false => rfl
   rw [loopR_filter a (zx_b1 a b) (fun x => !(hasN b x.Number)) (fun x => { Kind := 1, Aid := x : Correction }) (fun i s _ => e1 i s)]
   rw [loopR_filter a (zdb_b1 a b) (fun x => !(hasN b x.Number)) (fun x => { Kind := 1, Aid := x : Correction }) (fun i s _ => f1 i s)]
   dsimp only
   have h2 : ∀ (s1 : List Correction) j s, zx_b2 a b s1 j s = bif !(hasN a (b.getD j default).Number) then .ok (s ++ [{ Kind := 2, Aid := b.getD j default : Correction }]) else (bif !(zhb (a.getD (upto a (b.getD j default).Number) default) (b.getD j default)) then .ok (s ++ [{ Kind := 3, Aid := b.getD j default : Correction }]) else .ok s) := fun s1 j s => by
    simp only [zx_b2, hasAid_eq a _ (show a.length < 9223372036854775808 by omega), copyAid_id]
    cases hasN a (b.getD j default).Number <;> rfl
   have g2 : ∀ (s1 : List Correction) j s, zdb_b2 a b s1 j s = bif !(hasN a (b.getD j default).Number) then .ok (s ++ [{ Kind := 2, Aid := b.getD j default : Correction }]) else (bif !(zhb (a.getD (upto a (b.getD j default).Number) default) (b.getD j default)) then .ok (s ++ [{ Kind := 3, Aid := b.getD j default : Correction }]) else .ok s) := fun s1 j s => by
    simp only [zdb_b2, find_eq a _ oa.2.1, ownAid_id]
    cases hasN a (b.getD j default).Number with
    | true => simp only [cond_true, Bool.not_true, cond_false, Int.toNat_natCast]; rw [decide_eq_false (by omega)]; rfl
    | false => rfl
   obtain ⟨t1, q1, _⟩ := loopR_total (b := zx_b2 a b ((a.filter (fun x => !(hasN b x.Number))).map (fun x => { Kind := 1, Aid := x : Correction }))) (fun _ _ => True) (k := b.length - 0) (i := 0) (s := (a.filter (fun x => !(hasN b x.Number))).map (fun x => { Kind := 1, Aid := x : Correction })) trivial (by
    intro j u _ _ _
    rw [h2]
    cases hasN a (b.getD j default).Number with
    | false => exact ⟨_, rfl, trivial⟩
    | true =>
     cases zhb (a.getD (upto a (b.getD j default).Number) default) (b.getD j default) with
     | false => exact ⟨_, rfl, trivial⟩
     | true => exact ⟨_, rfl, trivial⟩)
   obtain ⟨t2, q2, _⟩ := loopR_total (b := zdb_b2 a b ((a.filter (fun x => !(hasN b x.Number))).map (fun x => { Kind := 1, Aid := x : Correction }))) (fun _ _ => True) (k := b.length - 0) (i := 0) (s := (a.filter (fun x => !(hasN b x.Number))).map (fun x => { Kind := 1, Aid := x : Correction })) trivial (by
    intro j u _ _ _
    rw [g2]
    cases hasN a (b.getD j default).Number with
    | false => exact ⟨_, rfl, trivial⟩
    | true =>
     cases zhb (a.getD (upto a (b.getD j default).Number) default) (b.getD j default) with
     | false => exact ⟨_, rfl, trivial⟩
     | true => exact ⟨_, rfl, trivial⟩)
   have ht : t1 = t2 := by
    have f := foldOk_same (zx_b2 a b ((a.filter (fun x => !(hasN b x.Number))).map (fun x => { Kind := 1, Aid := x : Correction }))) (zdb_b2 a b ((a.filter (fun x => !(hasN b x.Number))).map (fun x => { Kind := 1, Aid := x : Correction }))) (b.length - 0) 0 _ t1 t2 (fun j u v => by
     rw [h2, g2]
     cases hasN a (b.getD j default).Number with
     | false => exact ⟨_, rfl, rfl⟩
     | true =>
      cases zhb (a.getD (upto a (b.getD j default).Number) default) (b.getD j default) with
      | false => exact ⟨_, rfl, rfl⟩
      | true => exact ⟨_, rfl, rfl⟩) q1 q2
    exact f
   rw [q1, q2, ht]
theorem diff_all (P : Aid → Prop) (a b : List Aid) (ha : ∀ v ∈ a, P v) (hb : ∀ v ∈ b, P v) : (∀ x ∈ (zid a b).1, P x.Aid) ∧ (zid a b).1.length ≤ 48 := by
 unfold zid
 cases hk : zr a with
 | false => exact ⟨fun v hv => by simp at hv, by simp⟩
 | true =>
  cases hk2 : zr b with
  | false => exact ⟨fun v hv => by simp at hv, by simp⟩
  | true =>
   simp only [Bool.not_true, Bool.or_false, cond_false]
   have la := ((okA_iff a).1 hk).2.2
   have lb := ((okA_iff b).1 hk2).2.2
   have hmem : ∀ (l : List Aid) (j : Nat), (∀ v ∈ l, P v) → j < l.length → P (l.getD j default) := fun l j h hj => by
    rw [List.getD_eq_getElem?_getD, List.getElem?_eq_getElem hj]
    exact h _ (List.getElem_mem hj)
   unfold zdb
   obtain ⟨t1, q1, r1, r2⟩ := loopR_total (b := zdb_b1 a b) (fun j s => s.length ≤ j ∧ ∀ x ∈ s, P x.Aid) (k := a.length - 0) (i := 0) (s := ([] : List Correction)) ⟨by simp, fun v hv => by simp at hv⟩ (by
    intro j u _ hj h
    simp only [zdb_b1, ownAid_id]
    cases decide ((zh b ((a.getD j default).Number)) < 0) with
    | false => exact ⟨_, rfl, by omega, h.2⟩
    | true =>
     refine ⟨_, rfl, by simp; omega, fun x hx => ?_⟩
     rcases List.mem_append.1 hx with hx | hx
     ·exact h.2 x hx
     ·have : x = { Kind := 1, Aid := a.getD j default : Correction } := by simpa using hx
      subst this
      exact hmem a j ha (by omega))
   obtain ⟨t2, q2, r3, r4⟩ := loopR_total (b := zdb_b2 a b t1) (fun j s => s.length ≤ a.length + j ∧ ∀ x ∈ s, P x.Aid) (k := b.length - 0) (i := 0) (s := t1) ⟨by omega, r2⟩ (by
    intro j u _ hj h
    have hx1 : ∀ k x, x ∈ u ++ [{ Kind := k, Aid := b.getD j default : Correction }] → P x.Aid := by
     intro k x hx
     rcases List.mem_append.1 hx with hx | hx
     ·exact h.2 x hx
     ·have : x = { Kind := k, Aid := b.getD j default : Correction } := by simpa using hx
      subst this
      exact hmem b j hb (by omega)
    simp only [zdb_b2, ownAid_id]
    cases decide ((zh a ((b.getD j default).Number)) < 0) with
    | true => exact ⟨_, rfl, by simp; omega, hx1 2⟩
    | false =>
     simp only [cond_false]
     cases zhb (a.getD (((zh a ((b.getD j default).Number))).toNat) default) (b.getD j default) with
     | true => exact ⟨_, rfl, by omega, h.2⟩
     | false => exact ⟨_, rfl, by simp; omega, hx1 3⟩)
   rw [q1]
   dsimp only
   rw [q2]
   exact ⟨r4, by dsimp only; omega⟩
theorem law_DiffAids (a0 : List Aid) (a1 : List Aid) (hl : a0.length < 9223372036854775808) (hv : ∀ v ∈ a0, bwAid v) (hl1 : a1.length < 9223372036854775808) (hv1 : ∀ v ∈ a1, bwAid v) : znh a0 a1 = true := by
 unfold znh
 have f0 := zg_facts a0 1048576 (by omega) (by omega) hl hv
 by_cases c0 : zg a0 1048576 < 0
 ·rw [decide_eq_true c0]; rfl
 rw [decide_eq_false c0]
 have f1 := zg_facts a1 (zg a0 1048576) (by omega) (by omega) hl1 hv1
 by_cases c1 : zg a1 (zg a0 1048576) < 0
 ·rw [decide_eq_true c1]; rfl
 rw [decide_eq_false c1]
 simp only [cond_false]
 obtain ⟨g0, g1⟩ := f0.2.2 c0
 obtain ⟨k0, k1⟩ := f1.2.2 c1
 simp only [zb_id, zw_dec, zsb_dec]
 have hp0 : ∀ v ∈ a0, aidP v := fun v h => aidP_of (hv v h) (g1 v h)
 have hp1 : ∀ v ∈ a1, aidP v := fun v h => aidP_of (hv1 v h) (k1 v h)
 rw [diff_eq a0 a1 (fun v h => (hp0 v h).1) (fun v h => (hp1 v h).1)]
 obtain ⟨e2, e3⟩ := diff_all aidP a0 a1 hp0 hp1
 have hm := heldCorrectionS_mark (zid a0 a1).1 1 (fun v h => (e2 v h).2) (by omega) (by omega) (by omega)
 have hk := markAidS_rng a0 1 (fun v h => (hp0 v h).2) g0 (by omega) (by omega)
 have hk2 := markAidS_rng a1 (zt a0 1).1 (fun v h => (hp1 v h).2) k0 (by omega) (by omega)
 rw [hm.1, decide_eq_false hm.2, decide_eq_false (show ¬ (zt a1 (zt a0 1).1).1 < 0 by omega)]
 simp
end Go.Ab
