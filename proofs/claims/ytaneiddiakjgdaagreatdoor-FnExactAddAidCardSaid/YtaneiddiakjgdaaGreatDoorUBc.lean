/- A part of a proof: walks of functions and lemmas of our own. No conditions. -/
import Derived.Test.YtaneiddiakjgdaaGreatDoorUAl
import Derived.Test.YtaneiddiakjgdaaGreatDoorUAz
import Derived.Test.YtaneiddiakjgdaaGreatDoorUAp
import Derived.Test.YtaneiddiakjgdaaGreatDoorUAn
import Derived.Test.YtaneiddiakjgdaaGreatDoorUAk
import Derived.Test.YtaneiddiakjgdaaGreatDoorUBb
import Derived.Test.YtaneiddiakjgdaaGreatDoorUBa
import Derived.Test.YtaneiddiakjgdaaGreatDoorUAq
import Derived.Test.YtaneiddiakjgdaaGreatDoorUAo
set_option linter.unusedSectionVars false
set_option linter.unusedVariables false
set_option linter.unusedSimpArgs false
set_option maxHeartbeats 1000000
namespace Go.Ab
open Go Go.Proofs
def zv (a0 : Character) (a1 : Int) : Int × Character :=
 (((zd a0.Group a1).1), { a0 with Group := (zd a0.Group a1).2 })
namespace N101
theorem DD : DOk Tryz.prog (Go.Ab.DD [(20, dM [true, false] D_zd)]) := DD_cons D_zd_ok.e <| DD_nil _
theorem dn : type_of% (And.intro @D_zd.eq_1 <| @zd_sub) := And.intro @D_zd.eq_1 <| @zd_sub
theorem ol : type_of% (@zd_len) := @zd_len
theorem gr {p : Prop} (h : p := by (grind [zd_len]); first | done | fail) : p := h
theorem o1 {p : Prop} (h : p := by (first | exact mrg); first | done | fail) : p := h
theorem den (a0 : Character) (a1 : Int) (hp0 : a1 ≤ 9223372036854775807) : DenM Tryz.prog 101 [.agg (eCharacterO a0), .int .i64 a1] (.int .i64 ((zv a0 a1).1)) [(.agg [.any, (ownL 2 1 eIi64 (((zv a0 a1).2).Group)), .any, .any, .any]), .any] := by
 generalize hR : zv a0 a1 = r
 unfold zv at hR
 refine dj (gb := [true, false]) Tryz.func101 Tryz.ntmps101 Tryz.results101 ?_
 intro c hL hc hk
 obtain ⟨hL0, hL1, _⟩ := hL
 have hw0 : bwCharacter a0 := Character_lensO a0 hL0
 clear hL0 hL1
 simp only [adEL, adE, adRL, adR, ownL, encL, sv, List.nil_append, List.append_nil, List.cons_append, List.length_cons, List.length_nil, pars, Nat.zero_add, Nat.reduceAdd] at hk ⊢
 iterate 3 refine rS ?_
 refine AWP.ret ?_
 subst hR
 exact es
end N101
def D_zv : List AV → Option (AV × List AV × List Prop)
 | [x0, x1] => some (.int .i64 ((zv (rdG dCharacter x0) (rdI x1)).1), [(.agg [.any, (ownL 2 1 eIi64 (((zv (rdG dCharacter x0) (rdI x1)).2).Group)), .any, .any, .any]), .any], [wGO eCharacterO dCharacter x0, wI .i64 x1, (rdI x1) ≤ 9223372036854775807])
 | _ => none
theorem D_zv_ok : OkM Tryz.prog 101 D_zv := by unfold D_zv; exact dm N101.den
end Go.Ab

namespace Go.Ab
open Go Go.Proofs
theorem markCharacter_le (a : Character) (k : Int) (h : k ≤ 9223372036854775807) : (zv a k).1 ≤ 9223372036854775807 := by
 unfold zv
 exact markInt64S_le _ _ h
end Go.Ab

namespace Go.Ab
open Go Go.Proofs
theorem zv_len (a : Character) (k : Int) : (zv a k).2.Group.length = a.Group.length := by
 unfold zv
 simp only [zd_len]
theorem zv_sub (a : Character) (k : Int) : subL (zv a k).2.Group 0 a.Group.length = (zv a k).2.Group := by
 rw [← zv_len a k]; exact subL_all _
end Go.Ab

namespace Go.Ab
open Go Go.Proofs
def zcb (a0 : Aid) (a1 : Int) : Int × Aid :=
 (((zp a0.Sectors ((zv a0.Light a1).1)).1), { a0 with Light := { a0.Light with Group := ((zv a0.Light a1).2).Group }, Sectors := (zp a0.Sectors ((zv a0.Light a1).1)).2 })
namespace N36
theorem DD : DOk Tryz.prog (Go.Ab.DD [(101, dM [true, false] D_zv), (76, dM [true, false] D_zp)]) := DD_cons D_zv_ok.e <| DD_cons D_zp_ok.e <| DD_nil _
theorem dn : type_of% (And.intro @D_zv.eq_1 <| And.intro @D_zp.eq_1 <| And.intro @zv_sub <| @markSectorS_sub) := And.intro @D_zv.eq_1 <| And.intro @D_zp.eq_1 <| And.intro @zv_sub <| @markSectorS_sub
theorem ol : type_of% (And.intro @zv_len <| @markSectorS_len) := And.intro @zv_len <| @markSectorS_len
theorem gr {p : Prop} (h : p := by (grind [zv_len, markSectorS_le]); first | done | fail) : p := h
theorem o1 {p : Prop} (h : p := by (first | (exact mrg) | (exact markCharacter_le _ _ hp0)); first | done | fail) : p := h
theorem den (a0 : Aid) (a1 : Int) (hp0 : a1 ≤ 9223372036854775807) : DenM Tryz.prog 36 [.agg (eAidO a0), .int .i64 a1] (.int .i64 ((zcb a0 a1).1)) [(.agg [.any, .any, .any, .any, .any, .any, .any, .any, .any, .any, (ownL 2 1 eIi64 ((((zcb a0 a1).2).Light).Group)), .any, .any, .any, (ownL 180 3 eSector (((zcb a0 a1).2).Sectors)), .any]), .any] := by
 generalize hR : zcb a0 a1 = r
 unfold zcb at hR
 refine dj (gb := [true, false]) Tryz.func36 Tryz.ntmps36 Tryz.results36 ?_
 intro c hL hc hk
 obtain ⟨hL0, hL1, _⟩ := hL
 have hw0 : bwAid a0 := Aid_lensO a0 hL0
 clear hL0 hL1
 simp only [adEL, adE, adRL, adR, ownL, encL, sv, List.nil_append, List.append_nil, List.cons_append, List.length_cons, List.length_nil, pars, Nat.zero_add, Nat.reduceAdd] at hk ⊢
 iterate 4 refine rS ?_
 refine AWP.ret ?_
 subst hR
 exact es
end N36
def D_zcb : List AV → Option (AV × List AV × List Prop)
 | [x0, x1] => some (.int .i64 ((zcb (rdG dAid x0) (rdI x1)).1), [(.agg [.any, .any, .any, .any, .any, .any, .any, .any, .any, .any, (ownL 2 1 eIi64 ((((zcb (rdG dAid x0) (rdI x1)).2).Light).Group)), .any, .any, .any, (ownL 180 3 eSector (((zcb (rdG dAid x0) (rdI x1)).2).Sectors)), .any]), .any], [wGO eAidO dAid x0, wI .i64 x1, (rdI x1) ≤ 9223372036854775807])
 | _ => none
theorem D_zcb_ok : OkM Tryz.prog 36 D_zcb := by unfold D_zcb; exact dm N36.den
end Go.Ab

namespace Go.Ab
open Go Go.Proofs
theorem markAid_le (a : Aid) (k : Int) (h : k ≤ 9223372036854775807) : (zcb a k).1 ≤ 9223372036854775807 := by
 unfold zcb
 exact markSectorS_le _ _ (markCharacter_le _ _ h)
theorem markAid_lenG (a : Aid) (k : Int) : (zcb a k).2.Light.Group.length = a.Light.Group.length := by
 unfold zcb
 exact zv_len _ _
theorem markAid_lenS (a : Aid) (k : Int) : (zcb a k).2.Sectors.length = a.Sectors.length := by
 unfold zcb
 exact markSectorS_len _ _
theorem markAid_subG (a : Aid) (k : Int) : subL (zcb a k).2.Light.Group 0 a.Light.Group.length = (zcb a k).2.Light.Group := by
 rw [← markAid_lenG a k]; exact subL_all _
theorem markAid_subS (a : Aid) (k : Int) : subL (zcb a k).2.Sectors 0 a.Sectors.length = (zcb a k).2.Sectors := by
 rw [← markAid_lenS a k]; exact subL_all _
end Go.Ab

namespace Go.Ab
open Go Go.Proofs
def zqf (a0 : (List Aid)) (a1 : Aid) : Bool :=
 (bif decide ((zg a0 1048576) < 0) then true else (bif decide ((zbb a1 (zg a0 1048576)) < 0) then true else (bif ((!(zr ((ztb (za a0) (zm a1)).1) ((zlb (za a0) (zm a1)).1))) || (((ztb (za a0) (zm a1)).2) != ((zlb (za a0) (zm a1)).2))) then false else (bif (!(zr (za a0) (za a0))) then false else (bif (!(zcc (zm a1) (zm a1))) then false else (bif ((decide (((zcb (zm a1) ((zq (za a0) 1).1)).1) < 0) || (!(zr ((ztb (za a0) (zm a1)).1) ((zlb (za a0) (zm a1)).1)))) || (((ztb (za a0) (zm a1)).2) != ((zlb (za a0) (zm a1)).2))) then false else (bif decide ((zab ((zq ((ztb (za a0) (zm a1)).1) 1).2) 1) < 0) then false else (bif ((zab ((zq ((ztb (za a0) (zm a1)).1) 1).2) 1) != ((zq ((ztb (za a0) (zm a1)).1) 1).1)) then false else true))))))))
namespace N5
theorem DD : DOk Tryz.prog (Go.Ab.DD [(22, dP D_zg), (24, dP D_za), (27, dP D_zr), (31, dP D_zbb), (32, dP D_zlb), (33, dP D_zm), (34, dP D_ztb), (35, dP D_zcc), (36, dM [true, false] D_zcb), (37, dP D_zab)]) := DD_cons D_zg_ok.e <| DD_cons D_za_ok.e <| DD_cons D_zr_ok.e <| DD_cons D_zbb_ok.e <| DD_cons D_zlb_ok.e <| DD_cons D_zm_ok.e <| DD_cons D_ztb_ok.e <| DD_cons D_zcc_ok.e <| DD_cons D_zcb_ok.e <| DD_cons D_zab_ok.e <| DD_nil _
theorem DZ : DOk Tryz.prog (Go.Ab.DD [(22, dP D_zg), (24, dP D_za), (27, dP D_zr), (31, dP D_zbb), (32, dP D_zlb), (33, dP Dz_zm), (34, dP D_ztb), (35, dP D_zcc), (36, dM [true, false] D_zcb), (37, dP D_zab)]) := DD_cons D_zg_ok.e <| DD_cons D_za_ok.e <| DD_cons D_zr_ok.e <| DD_cons D_zbb_ok.e <| DD_cons D_zlb_ok.e <| DD_cons Dz_zm_ok.e <| DD_cons D_ztb_ok.e <| DD_cons D_zcc_ok.e <| DD_cons D_zcb_ok.e <| DD_cons D_zab_ok.e <| DD_nil _
theorem dn : type_of% (And.intro @D_zg.eq_1 <| And.intro @D_za.eq_1 <| And.intro @D_zr.eq_1 <| And.intro @D_zbb.eq_1 <| And.intro @D_zlb.eq_1 <| And.intro @D_zm.eq_1 <| And.intro @D_ztb.eq_1 <| And.intro @D_zcc.eq_1 <| And.intro @D_zcb.eq_1 <| And.intro @D_zab.eq_1 <| And.intro @Dz_zm.eq_1 <| And.intro @markAidS_sub <| And.intro @markAid_subG <| And.intro @markAid_subS <| @markAidS_sub) := And.intro @D_zg.eq_1 <| And.intro @D_za.eq_1 <| And.intro @D_zr.eq_1 <| And.intro @D_zbb.eq_1 <| And.intro @D_zlb.eq_1 <| And.intro @D_zm.eq_1 <| And.intro @D_ztb.eq_1 <| And.intro @D_zcc.eq_1 <| And.intro @D_zcb.eq_1 <| And.intro @D_zab.eq_1 <| And.intro @Dz_zm.eq_1 <| And.intro @markAidS_sub <| And.intro @markAid_subG <| And.intro @markAid_subS <| @markAidS_sub
theorem ol : type_of% (And.intro @za_id <| And.intro @markAidS_len <| And.intro @zm_id <| And.intro @markAid_lenG <| @markAid_lenS) := And.intro @za_id <| And.intro @markAidS_len <| And.intro @zm_id <| And.intro @markAid_lenG <| @markAid_lenS
theorem gr {p : Prop} (h : p := by (grind [markAidS_le, markAid_le, markAidS_le]); first | done | fail) : p := h
theorem o1 {p : Prop} (h : p := by (first | (exact mrg) | (exact markAidS_le _ _ (by exact mrg)) | ((try simp only [ol]); first | (have h9 := hG0 (by assumption); first | exact h9.2 | exact h9.1 | omega) | (have h9 := hG1 (by assumption); first | exact h9.2 | exact h9.1 | omega)) | ((try simp only [ol]); have h9 := (hG1 (by assumption)).2; first | exact h9.1 | exact h9.2 | exact h9.2.1.1 | exact h9.2.1.2.1 | exact h9.2.1.2.2 | exact h9.2.2.1.1 | exact h9.2.2.1.2.1 | exact h9.2.2.1.2.2 | exact h9.2.2.2.1 | exact h9.2.2.2.2 | omega) | ((try simp only [ol]); have h9 := (hG1 (by assumption)).1; first | exact h9.1 | omega)); first | done | fail) : p := h
set_option maxHeartbeats 4000000 in
set_option maxRecDepth 20000 in
theorem _root_.Go.Ab.zqf_den (a0 : (List Aid)) (a1 : Aid)  : Den Tryz.prog 5 [encL 16 eAid a0, .agg (eAid a1)] (.bool (zqf a0 a1)) := by
 generalize hR : zqf a0 a1 = r
 unfold zqf at hR
 refine den_introL G_ok Tryz.func5 (by kernel_rfl) rfl Tryz.ntmps5 (by rw [Tryz.results5]) (by simp) rfl ?_
 intro c u hdp hlit hL hc hk
 obtain ⟨hL0, hL1, _⟩ := hL
 have hw0 : a0.length < 9223372036854775808 := Nat.lt_succ_of_le (lens_encL hL0).1
 have hw1 : ∀ v ∈ a0, bwAid v := fun v hv => Aid_lens v ((lens_encL hL0).2 v hv)
 have hw2 : bwAid a1 := Aid_lens a1 hL1
 clear hL0 hL1
 simp only [litN, lit1, litM, litS1, litR, litRM, encL, sv, Nat.zero_add, Nat.reduceAdd] at hlit
 simp only [litN, lit1, litM, litS1, encL, sv, pars, Nat.zero_add, Nat.reduceAdd]
 have hf0 := zg_facts a0 (1048576) (by omega) (by omega) hw0 hw1
 have hf1 := zbb_facts a1 (zg a0 (1048576)) (by omega) (by omega) hw2
 have hG0 : decide (zg a0 (1048576) < 0) = false → a0.length ≤ 1048576 ∧ ∀ x ∈ a0, bdAid x := fun h => ⟨(hf0.2.2 (of_decide_eq_false h)).1, fun x hx => smAid_bd x ((hf0.2.2 (of_decide_eq_false h)).2 x hx)⟩
 have hG1 : decide (zbb a1 (zg a0 (1048576)) < 0) = false → smAid a1 ∧ bdAid a1 := fun h => ⟨hf1.2.2 (of_decide_eq_false h), smAid_bd a1 (hf1.2.2 (of_decide_eq_false h))⟩
 refine AWP.seq ?_
 refine rB ?_
 iterate 3 refine rS ?_
 refine AWP.cond rfl (fun hb => ?_) (fun hb => ?_)
 ·replace hR := ct hR
  refine rS ?_
  refine AWP.ret ?_
  subst hR
  exact es
 ·replace hR := cf hR
  iterate 2 refine rS ?_
  refine AWP.cond rfl (fun hb => ?_) (fun hb => ?_)
  ·replace hR := ct hR
   refine rS ?_
   refine AWP.ret ?_
   subst hR
   exact es
  ·replace hR := cf hR
   refine AWP.skip ?_
   refine AWP.seq ?_
   refine AWP.regP mixed G_ok DD hc 9 [0, 2] (.alt 1 [] [2] (.alt 3 [] [] (.alt 4 [5, 6, 7] [5, 6, 7] (.alt 8 [] [7] .leaf .stop) .stop) .stop) .stop) (by kernel_rfl) (by kernel_rfl) (by kernel_rfl) (fun K hK => ?_); simp only [rootP, runN, runP, recheck, nthO, ea, absV, absVL, cput, gv, sv, dn, reduceCtorEq, reduceIte, Nat.reduceBEq, Nat.reduceAdd, Nat.reduceEqDiff, Nat.reduceLT, Nat.reduceLeDiff, Nat.reduceMul, Nat.reduceSub, BEq.rfl, beq_self_eq_true, Int.reduceToNat]
   repeat' apply And.intro
   all_goals first | refine hK _ ?_ | exact ot
   all_goals clear hK K
   iterate 4 refine rS ?_
   refine AWP.cond rfl (fun hb => ?_) (fun hb => ?_)
   ·replace hR := ct hR
    refine rS ?_
    refine AWP.ret ?_
    subst hR
    exact es
   ·replace hR := cf hR
    refine rS ?_
    refine AWP.cond rfl (fun hb => ?_) (fun hb => ?_)
    ·replace hR := ct hR
     refine rS ?_
     refine AWP.ret ?_
     subst hR
     exact es
    ·replace hR := cf hR
     refine rZ 3 ?_
     refine AWP.cond rfl (fun hb => ?_) (fun hb => ?_)
     ·replace hR := ct hR
      refine rS ?_
      refine AWP.ret ?_
      subst hR
      exact es
     ·replace hR := cf hR
      refine rS ?_
      refine AWP.seq ?_
      refine AWP.keepT [0, 3, 6, 7, 8, 9, 10, 11, 12] ?_; simp only [List.map, putL, dropL, Nat.beq_refl, cond_true, ea, absV, absVL, cput, gv, sv, dn, reduceCtorEq, reduceIte, Nat.reduceBEq, Nat.reduceAdd, Nat.reduceEqDiff, Nat.reduceLT, Nat.reduceLeDiff, Nat.reduceMul, Nat.reduceSub, BEq.rfl, beq_self_eq_true, Int.reduceToNat]
      refine rX 2 (N28.den (za a0) 1 ot) ?_
      iterate 2 refine rS ?_
      refine AWP.cond rfl (fun hb => ?_) (fun hb => ?_)
      ·replace hR := ct hR
       refine rS ?_
       refine AWP.ret ?_
       subst hR
       exact es
      ·replace hR := cf hR
       refine rS ?_
       refine AWP.seq ?_
       refine AWP.keepT [0, 3, 6, 7, 10, 13] ?_; simp only [List.map, putL, dropL, Nat.beq_refl, cond_true, ea, absV, absVL, cput, gv, sv, dn, reduceCtorEq, reduceIte, Nat.reduceBEq, Nat.reduceAdd, Nat.reduceEqDiff, Nat.reduceLT, Nat.reduceLeDiff, Nat.reduceMul, Nat.reduceSub, BEq.rfl, beq_self_eq_true, Int.reduceToNat]
       refine rX 2 (N28.den ((ztb (za a0) (zm a1)).1) 1 ot) ?_
       iterate 3 refine rS ?_
       refine AWP.cond rfl (fun hb => ?_) (fun hb => ?_)
       ·replace hR := ct hR
        refine rS ?_
        refine AWP.ret ?_
        subst hR
        exact es
       ·replace hR := cf hR
        refine rS ?_
        refine AWP.cond rfl (fun hb => ?_) (fun hb => ?_)
        ·replace hR := ct hR
         refine rS ?_
         refine AWP.ret ?_
         subst hR
         exact es
        ·replace hR := cf hR
         refine AWP.skip ?_
         refine AWP.seq ?_
         refine AWP.regP mixed G_ok DD hc 9 [0, 2] (.alt 1 [] [2] (.alt 3 [] [] (.alt 4 [5, 6, 7] [5, 6, 7] (.alt 8 [] [7] .leaf .stop) .stop) .stop) .stop) (by kernel_rfl) (by kernel_rfl) (by kernel_rfl) (fun K hK => ?_); simp only [rootP, runN, runP, recheck, nthO, ea, absV, absVL, cput, gv, sv, dn, reduceCtorEq, reduceIte, Nat.reduceBEq, Nat.reduceAdd, Nat.reduceEqDiff, Nat.reduceLT, Nat.reduceLeDiff, Nat.reduceMul, Nat.reduceSub, BEq.rfl, beq_self_eq_true, Int.reduceToNat]
         repeat' apply And.intro
         all_goals first | refine hK _ ?_ | exact ot
         all_goals clear hK K
         refine rS ?_
         refine AWP.cond rfl (fun hb => ?_) (fun hb => ?_)
         ·exfalso; simp_all
         ·refine rS ?_
          iterate 2 refine rS ?_
          refine AWP.cond rfl (fun hb => ?_) (fun hb => ?_)
          ·exfalso; simp_all
          ·refine rS ?_
           refine AWP.cond rfl (fun hb => ?_) (fun hb => ?_)
           ·exfalso; simp_all
           ·refine rS ?_
            refine AWP.ret ?_
            subst hR
            exact es
end N5
end Go.Ab

namespace Go.Ab
open Go Go.Proofs
theorem bw_aidL {v : Aid} (h : bwAid v) (h2 : v.Sectors.length ≤ 1048576) : aidL v := ⟨h.2.2.1.2.2, by omega⟩
theorem sm_aidB {v : Aid} (h : smAid v) : aidB v := ⟨h.2.2.1.1, h.2.2.2.1⟩
theorem markAid_rng (a : Aid) (k : Int) (ha : aidB a) (h0 : 0 ≤ k) (h1 : k ≤ 1073741824 * 1048576) : 0 ≤ (zcb a k).1 := by
 unfold zcb zv
 simp only
 obtain ⟨b1, b2⟩ := ha
 have e1 := zd_k a.Light.Group k h0 (by omega) (by omega)
 rw [markSectorS_k _ _ (by rw [e1]; omega) (by rw [e1]; omega) (by omega), e1]
 omega
theorem l25 (l : List Aid) (a : Aid) (hl : l.length < 9223372036854775808) : (zlb l a).1.length ≤ 1048576 := by
 have h := (addAid_all l a (fun _ => True) hl (fun _ _ => trivial) trivial).2
 unfold zlb at h ⊢
 cases hb : ((!(zo l)) || (!(zwb a))) with
 | true => simp
 | false =>
  rw [hb] at h
  have hok : zo l = true := by
   rw [Bool.or_eq_false_iff] at hb
   simpa using hb.1
  have := l12Ok_len hok
  omega
theorem law_AddAid (a0 : List Aid) (a1 : Aid) (hl : a0.length < 9223372036854775808) (hv : ∀ v ∈ a0, bwAid v) (ha : bwAid a1) : zqf a0 a1 = true := by
 unfold zqf
 have f0 := zg_facts a0 1048576 (by omega) (by omega) hl hv
 by_cases c0 : zg a0 1048576 < 0
 ·rw [decide_eq_true c0]; rfl
 rw [decide_eq_false c0]
 have f1 := zbb_facts a1 (zg a0 1048576) (by omega) (by omega) ha
 by_cases c1 : zbb a1 (zg a0 1048576) < 0
 ·rw [decide_eq_true c1]; rfl
 rw [decide_eq_false c1]
 simp only [cond_false]
 obtain ⟨g0, g1⟩ := f0.2.2 c0
 have g2 := f1.2.2 c1
 simp only [za_id, zm_id, zr_dec, zcc_dec]
 have hb : ∀ v ∈ a0, aidB v := fun v h => sm_aidB (g1 v h)
 have ha1 : aidB a1 := sm_aidB g2
 rw [addAid_eq a0 a1 hl (fun v h => bw_aidL (hv v h) (hb v h).2) (bw_aidL ha ha1.2)]
 have hg := addAid_all a0 a1 aidB hl hb ha1
 have hm := heldAidS_mark (zlb a0 a1).1 1 hg.1 (l25 a0 a1 hl) (by omega) (by omega)
 have hk := markAidS_rng a0 1 hb g0 (by omega) (by omega)
 have hk2 := markAid_rng a1 (zq a0 1).1 ha1 (by omega) (by omega)
 rw [hm.1, decide_eq_false hm.2, decide_eq_false (show ¬ (zcb a1 (zq a0 1).1).1 < 0 by omega)]
 simp
end Go.Ab
