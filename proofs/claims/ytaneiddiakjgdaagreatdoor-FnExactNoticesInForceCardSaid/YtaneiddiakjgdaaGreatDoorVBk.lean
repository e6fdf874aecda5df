/- A part of a proof: walks of functions and lemmas of our own. No conditions. -/
import Derived.Test.YtaneiddiakjgdaaGreatDoorVAl
import Derived.Test.YtaneiddiakjgdaaGreatDoorVBe
import Derived.Test.YtaneiddiakjgdaaGreatDoorVAx
import Derived.Test.YtaneiddiakjgdaaGreatDoorVAt
import Derived.Test.YtaneiddiakjgdaaGreatDoorVAn
import Derived.Test.YtaneiddiakjgdaaGreatDoorVBf
import Derived.Test.YtaneiddiakjgdaaGreatDoorVBc
import Derived.Test.YtaneiddiakjgdaaGreatDoorVBa
import Derived.Test.YtaneiddiakjgdaaGreatDoorVBb
import Derived.Test.YtaneiddiakjgdaaGreatDoorVAp
set_option linter.unusedSectionVars false
set_option linter.unusedVariables false
set_option linter.unusedSimpArgs false
set_option maxHeartbeats 1000000
namespace Go.Ab
open Go Go.Proofs
def zub_b1 (a0 : (List Notice)) (a1 : Int) (i1 : Nat) (s1 : List Int) : Except (((List Int) × Int)) (List Int) :=
 (bif (zue a0 (i1 : Int) a1) then .ok (s1 ++ ([(a0.getD i1 default).Number] : List Int)) else .ok s1)
def zub (a0 : (List Notice)) (a1 : Int) : ((List Int) × Int) :=
 (bif (!(zjb a0)) then ([], 1) else (bif (!(zmc a1)) then ([], 2) else (match loopR (zub_b1 a0 a1) (a0.length - 0) 0 ([] : List Int) with | .error e => e | .ok s1 => (s1, 0))))
namespace N14
theorem DD : DOk Tryz.prog (Go.Ab.DD [(69, dP D_zjb), (70, dP D_zmc), (71, dP D_zue)]) := DD_cons D_zjb_ok.e <| DD_cons D_zmc_ok.e <| DD_cons D_zue_ok.e <| DD_nil _
theorem dn : type_of% (And.intro @D_zjb.eq_1 <| And.intro @D_zmc.eq_1 <| @D_zue.eq_1) := by and_intros <;> intros <;> rfl
theorem gr {p : Prop} (h : p := by (grind [l21Ok_len]); first | done | fail) : p := h
theorem den (a0 : (List Notice)) (a1 : Int) (hb0 : a0.length < 1099511627776) (hb1 : ∀ v ∈ a0, bdNotice v) : Den Tryz.prog 14 [encL 20 eNotice a0, .int .i64 a1] (.tup [ownL 2 1 eIi64 ((zub a0 a1).1), .int .i64 ((zub a0 a1).2)]) := by
 generalize hR : zub a0 a1 = r
 unfold zub at hR
 refine di Tryz.func14 Tryz.ntmps14 Tryz.results14 ?_
 intro c hL hc hk
 obtain ⟨hL0, hL1, _⟩ := hL
 have hw0 : a0.length < 9223372036854775808 := Nat.lt_succ_of_le (lens_encL hL0).1
 have hw1 : ∀ v ∈ a0, bwNotice v := fun v hv => Notice_lens v ((lens_encL hL0).2 v hv)
 clear hL0 hL1
 simp only [pars, Nat.zero_add]
 iterate 2 refine rS ?_
 refine AWP.cond rfl (fun hb => ?_) (fun hb => ?_)
 ·replace hR := ct hR
  refine rS ?_
  refine AWP.ret ?_
  subst hR
  exact es
 ·replace hR := cf hR
  refine rS ?_
  refine AWP.cond rfl (fun hb => ?_) (fun hb => ?_)
  ·replace hR := ct hR
   refine rS ?_
   refine AWP.ret ?_
   subst hR
   exact es
  ·replace hR := cf hR
   iterate 2 refine rS ?_
   refine AWP.block ?_
   generalize hz1 : loopR (zub_b1 a0 a1) (a0.length - 0) 0 ([] : List Int) = z1 at hR
   refine AWP.range (zub_b1 a0 a1) (fun i1 s1 => ⟨[(0, encL 20 eNotice a0), (1, .int .i64 a1), (6, .ref 0 1 0 s1.length), (7, .int .i64 (i1 : Int))], [.arr 2 1 s1.length (fun j => eIi64 (s1.getD j default))]⟩) (fun i1 s1 => s1.length ≤ ([] : List Int).length + 1 * i1 ∧ s1.length ≤ i1) (a0.length) 0 ([] : List Int) [0] hz1 ot wt sm ?_
   clear hz1
   intro i1 s1 hi1 hW1 hz1
   refine rS ?_
   refine AWP.cond rfl (fun hb => ?_) (fun hb => ?_)
   ·have hlt1 : i1 < a0.length := ot
    rw [loopR_lt hlt1] at hz1; simp only [zub_b1] at hz1
    refine rS ?_
    refine AWP.cond rfl (fun hb => ?_) (fun hb => ?_)
    ·simp only [hb, cond_true] at hz1
     iterate 2 refine rS ?_
     exact ⟨_, [2], hlt1, wt, hz1, sm⟩
    ·simp only [hb, cond_false] at hz1
     refine rS ?_
     exact ⟨_, [0], hlt1, wt, hz1, sm⟩
   ·obtain rfl : i1 = a0.length := ot
    rw [loopR_ge (Nat.le_refl _)] at hz1; subst hz1; dsimp only at hR
    refine AWP.exit ?_; refine exitTo_here ?_
    refine rS ?_
    refine AWP.ret ?_
    subst hR
    exact es
end N14
def D_zub : DF
 | [x0, x1] => some (.tup [ownL 2 1 eIi64 ((zub (rdL dNotice x0) (rdI x1)).1), .int .i64 ((zub (rdL dNotice x0) (rdI x1)).2)], false, [wL 20 eNotice dNotice x0, wI .i64 x1, (rdL dNotice x0).length < 1099511627776, ∀ v ∈ (rdL dNotice x0), bdNotice v])
 | _ => none
theorem D_zub_ok : OkD Tryz.prog 14 D_zub := by unfold D_zub; exact dk N14.den
end Go.Ab

namespace Go.Ab
open Go Go.Proofs
def zcc_b1 (a0 : (List Notice)) (a1 : Int) (i1 : Nat) (s1 : List Int) : Except (((List Int) × Int)) (List Int) :=
 .ok (s1 ++ ([((zl a0 a1).getD i1 default).Number] : List Int))
def zcc (a0 : (List Notice)) (a1 : Int) : ((List Int) × Int) :=
 (bif (!(zbc a0)) then ([], 1) else (bif (!(zqd a1)) then ([], 2) else (match loopR (zcc_b1 a0 a1) (((zl a0 a1).length) - 0) 0 ([] : List Int) with | .error e => e | .ok s1 => (s1, 0))))
namespace N16
theorem DD : DOk Tryz.prog (Go.Ab.DD [(72, dP D_zbc), (73, dP D_zqd), (74, dP D_zl)]) := DD_cons D_zbc_ok.e <| DD_cons D_zqd_ok.e <| DD_cons D_zl_ok.e <| DD_nil _
theorem dn : type_of% (And.intro @D_zbc.eq_1 <| And.intro @D_zqd.eq_1 <| @D_zl.eq_1) := by and_intros <;> intros <;> rfl
theorem gr {p : Prop} (h : p := by (grind [vNts_len, inForce_len]); first | done | fail) : p := h
theorem o1 {p : Prop} (h : p := by (first | (have h9 := hvl (by assumption); omega) | (have h9 := hvl (by assumption); have h8 := hW1; omega)); first | done | fail) : p := h
theorem den (a0 : (List Notice)) (a1 : Int) (hb0 : a0.length < 1099511627776) (hb1 : ∀ v ∈ a0, bdNotice v) : Den Tryz.prog 16 [encL 20 eNotice a0, .int .i64 a1] (.tup [ownL 2 1 eIi64 ((zcc a0 a1).1), .int .i64 ((zcc a0 a1).2)]) := by
 generalize hR : zcc a0 a1 = r
 unfold zcc at hR
 refine di Tryz.func16 Tryz.ntmps16 Tryz.results16 ?_
 intro c hL hc hk
 obtain ⟨hL0, hL1, _⟩ := hL
 have hw0 : a0.length < 9223372036854775808 := Nat.lt_succ_of_le (lens_encL hL0).1
 have hw1 : ∀ v ∈ a0, bwNotice v := fun v hv => Notice_lens v ((lens_encL hL0).2 v hv)
 clear hL0 hL1
 simp only [pars, Nat.zero_add]
 have hfl := inForce_len a0 a1
 have hvl : (!zbc a0) = false → a0.length ≤ 32 := fun h => vNts_len (by simpa using h)
 iterate 2 refine rS ?_
 refine AWP.cond rfl (fun hb => ?_) (fun hb => ?_)
 ·replace hR := ct hR
  refine rS ?_
  refine AWP.ret ?_
  subst hR
  exact es
 ·replace hR := cf hR
  refine rS ?_
  refine AWP.cond rfl (fun hb => ?_) (fun hb => ?_)
  ·replace hR := ct hR
   refine rS ?_
   refine AWP.ret ?_
   subst hR
   exact es
  ·replace hR := cf hR
   iterate 2 refine rS ?_
   refine AWP.block ?_
   generalize hz1 : loopR (zcc_b1 a0 a1) (((zl a0 a1).length) - 0) 0 ([] : List Int) = z1 at hR
   refine AWP.range (zcc_b1 a0 a1) (fun i1 s1 => ⟨[(6, .ref 0 1 0 s1.length), (18, .ref 1 20 0 ((zl a0 a1).length)), (19, .int .i64 ((zl a0 a1).length : Int)), (20, .int .i64 (i1 : Int))], [.arr 2 1 s1.length (fun j => eIi64 (s1.getD j default)), .arr 90 20 (zl a0 a1).length (fun j => eNotice ((zl a0 a1).getD j default))]⟩) (fun i1 s1 => s1.length ≤ ([] : List Int).length + 1 * i1 ∧ s1.length ≤ i1) (((zl a0 a1).length)) 0 ([] : List Int) [0, 1] hz1 ot wt sm ?_
   clear hz1
   intro i1 s1 hi1 hW1 hz1
   refine rS ?_
   refine AWP.seq ?_
   refine AWP.cond rfl (fun hb => ?_) (fun hb => ?_)
   ·have hlt1 : i1 < ((zl a0 a1).length) := ot
    rw [loopR_lt hlt1] at hz1; simp only [zcc_b1] at hz1
    iterate 3 refine rS ?_
    exact ⟨_, [4, 1], hlt1, wt, hz1, sm⟩
   ·obtain rfl : i1 = ((zl a0 a1).length) := ot
    rw [loopR_ge (Nat.le_refl _)] at hz1; subst hz1; dsimp only at hR
    refine AWP.exit ?_; refine exitTo_here ?_
    refine rS ?_
    refine AWP.ret ?_
    subst hR
    exact es
end N16
def D_zcc : DF
 | [x0, x1] => some (.tup [ownL 2 1 eIi64 ((zcc (rdL dNotice x0) (rdI x1)).1), .int .i64 ((zcc (rdL dNotice x0) (rdI x1)).2)], false, [wL 20 eNotice dNotice x0, wI .i64 x1, (rdL dNotice x0).length < 1099511627776, ∀ v ∈ (rdL dNotice x0), bdNotice v])
 | _ => none
theorem D_zcc_ok : OkD Tryz.prog 16 D_zcc := by unfold D_zcc; exact dk N16.den
end Go.Ab

namespace Go.Ab
open Go Go.Proofs
def zoh (a0 : (List Notice)) (a1 : Int) : Bool :=
 (bif decide ((zz a0 1048576) < 0) then true else (bif ((!(zwb ((zcc (zi a0) a1).1) ((zub (zi a0) a1).1))) || (((zcc (zi a0) a1).2) != ((zub (zi a0) a1).2))) then false else (bif (!(zxb (zi a0) (zi a0))) then false else (bif ((decide (((zvc (zi a0) 1).1) < 0) || (!(zwb ((zcc (zi a0) a1).1) ((zub (zi a0) a1).1)))) || (((zcc (zi a0) a1).2) != ((zub (zi a0) a1).2))) then false else (bif decide ((zm ((za ((zcc (zi a0) a1).1) 1).2) 1) < 0) then false else (bif ((zm ((za ((zcc (zi a0) a1).1) 1).2) 1) != ((za ((zcc (zi a0) a1).1) 1).1)) then false else true))))))
namespace N3
theorem DD : DOk Tryz.prog (Go.Ab.DD [(13, dP D_zz), (14, dP D_zub), (15, dP D_zi), (16, dP D_zcc), (17, dP D_zwb), (18, dP D_zxb), (20, dM [true, false] D_za), (21, dP D_zm)]) := DD_cons D_zz_ok.e <| DD_cons D_zub_ok.e <| DD_cons D_zi_ok.e <| DD_cons D_zcc_ok.e <| DD_cons D_zwb_ok.e <| DD_cons D_zxb_ok.e <| DD_cons D_za_ok.e <| DD_cons D_zm_ok.e <| DD_nil _
theorem dn : type_of% (And.intro @D_zz.eq_1 <| And.intro @D_zub.eq_1 <| And.intro @D_zi.eq_1 <| And.intro @D_zcc.eq_1 <| And.intro @D_zwb.eq_1 <| And.intro @D_zxb.eq_1 <| And.intro @D_za.eq_1 <| And.intro @D_zm.eq_1 <| And.intro @markNoticeS_sub <| And.intro @za_sub <| @za_sub) := And.intro @D_zz.eq_1 <| And.intro @D_zub.eq_1 <| And.intro @D_zi.eq_1 <| And.intro @D_zcc.eq_1 <| And.intro @D_zwb.eq_1 <| And.intro @D_zxb.eq_1 <| And.intro @D_za.eq_1 <| And.intro @D_zm.eq_1 <| And.intro @markNoticeS_sub <| And.intro @za_sub <| @za_sub
theorem ol : type_of% (And.intro @zi_id <| And.intro @markNoticeS_len <| @za_len) := And.intro @zi_id <| And.intro @markNoticeS_len <| @za_len
theorem gr {p : Prop} (h : p := by (grind [markNoticeS_le, za_len, za_len]); first | done | fail) : p := h
theorem o1 {p : Prop} (h : p := by (first | (exact mrg) | (exact markAidS_le _ _ (by exact mrg)) | ((try simp only [ol]); first | (have h9 := hG0 (by assumption); first | exact h9.2 | exact h9.1 | omega))); first | done | fail) : p := h
set_option maxHeartbeats 4000000 in
set_option maxRecDepth 20000 in
theorem _root_.Go.Ab.zoh_den (a0 : (List Notice)) (a1 : Int)  : Den Tryz.prog 3 [encL 20 eNotice a0, .int .i64 a1] (.bool (zoh a0 a1)) := by
 generalize hR : zoh a0 a1 = r
 unfold zoh at hR
 refine den_introL G_ok Tryz.func3 (by kernel_rfl) rfl Tryz.ntmps3 (by rw [Tryz.results3]) (by simp) rfl ?_
 intro c u hdp hlit hL hc hk
 obtain ⟨hL0, hL1, _⟩ := hL
 have hw0 : a0.length < 9223372036854775808 := Nat.lt_succ_of_le (lens_encL hL0).1
 have hw1 : ∀ v ∈ a0, bwNotice v := fun v hv => Notice_lens v ((lens_encL hL0).2 v hv)
 clear hL0 hL1
 simp only [litN, lit1, litR, encL, sv, Nat.zero_add] at hlit
 simp only [litN, lit1, encL, sv, pars, Nat.zero_add, Nat.reduceAdd]
 have hf0 := zz_facts a0 (1048576) (by omega) (by omega) hw0 hw1
 have hG0 : decide (zz a0 (1048576) < 0) = false → a0.length ≤ 1048576 ∧ ∀ x ∈ a0, bdNotice x := fun h => ⟨(hf0.2.2 (of_decide_eq_false h)).1, fun x hx => smNotice_bd x ((hf0.2.2 (of_decide_eq_false h)).2 x hx)⟩
 iterate 4 refine rS ?_
 refine AWP.cond rfl (fun hb => ?_) (fun hb => ?_)
 ·replace hR := ct hR
  refine rS ?_
  refine AWP.ret ?_
  subst hR
  exact es
 ·replace hR := cf hR
  iterate 4 refine rS ?_
  refine AWP.cond rfl (fun hb => ?_) (fun hb => ?_)
  ·replace hR := ct hR
   refine rS ?_
   refine AWP.ret ?_
   subst hR
   exact es
  ·replace hR := cf hR
   refine rS ?_
   refine AWP.cond rfl (fun hb => ?_) (fun hb => ?_)
   ·replace hR := ct hR
    refine rS ?_
    refine AWP.ret ?_
    subst hR
    exact es
   ·replace hR := cf hR
    refine rS ?_
    refine AWP.seq ?_
    refine rX 2 (N19.den (zi a0) 1 ot) ?_
    refine rS ?_
    refine AWP.cond rfl (fun hb => ?_) (fun hb => ?_)
    ·replace hR := ct hR
     refine rS ?_
     refine AWP.ret ?_
     subst hR
     exact es
    ·replace hR := cf hR
     iterate 5 refine rS ?_
     refine AWP.cond rfl (fun hb => ?_) (fun hb => ?_)
     ·replace hR := ct hR
      refine rS ?_
      refine AWP.ret ?_
      subst hR
      exact es
     ·replace hR := cf hR
      refine rS ?_
      refine AWP.cond rfl (fun hb => ?_) (fun hb => ?_)
      ·replace hR := ct hR
       refine rS ?_
       refine AWP.ret ?_
       subst hR
       exact es
      ·replace hR := cf hR
       iterate 2 refine rS ?_
       refine AWP.cond rfl (fun hb => ?_) (fun hb => ?_)
       ·exfalso; simp_all
       ·refine rS ?_
        iterate 2 refine rS ?_
        refine AWP.cond rfl (fun hb => ?_) (fun hb => ?_)
        ·exfalso; simp_all
        ·refine rS ?_
         refine AWP.cond rfl (fun hb => ?_) (fun hb => ?_)
         ·exfalso; simp_all
         ·refine rS ?_
          refine AWP.ret ?_
          subst hR
          exact es
end N3
end Go.Ab

namespace Go.Ab
open Go Go.Proofs
theorem nif_eq (l : List Notice) (d : Int) (h : ∀ n ∈ l, aidL n.Aid) : zcc l d = zub l d ∧ (zub l d).1.length ≤ 32 := by
 unfold zcc zub
 rw [valNotices_eq l h]
 have e1 : zqd d = zmc d := rfl
 rw [e1]
 cases hk : zjb l with
 | false => exact ⟨rfl, by simp⟩
 | true =>
  simp only [Bool.not_true, cond_false]
  cases zmc d with
  | false => exact ⟨rfl, by simp⟩
  | true =>
   simp only [Bool.not_true, cond_false]
   rw [loopR_map (zl l d) (zcc_b1 l d) (fun n => n.Number) (fun i s _ => rfl), inForce_eq]
   rw [loopR_filter l (zub_b1 l d) (inF l d) (fun n => n.Number) (fun i s _ => by simp only [zub_b1, force_eq])]
   refine ⟨rfl, ?_⟩
   have := (l21_all hk).2
   have h2 := List.length_filter_le (inF l d) l
   simp only [List.length_map]
   omega
theorem law_NoticesInForce (a0 : List Notice) (a1 : Int) (hl1 : a0.length < 9223372036854775808) (hv1 : ∀ v ∈ a0, bwNotice v) : zoh a0 a1 = true := by
 unfold zoh
 have f1 := zz_facts a0 1048576 (by omega) (by omega) hl1 hv1
 by_cases c1 : zz a0 1048576 < 0
 ·rw [decide_eq_true c1]; rfl
 rw [decide_eq_false c1]
 simp only [cond_false]
 obtain ⟨k0, k1⟩ := f1.2.2 c1
 have hp1 : ∀ n ∈ a0, aidP n.Aid := fun n h => aidP_of (hv1 n h) (k1 n h)
 simp only [zi_id, zwb_dec, zxb_dec]
 obtain ⟨e1, e2⟩ := nif_eq a0 a1 (fun n h => (hp1 n h).1)
 rw [e1]
 have hm := zm_mark (zub a0 a1).1 1 (by omega) (by omega) (by omega)
 have hm2 := za_k (zub a0 a1).1 1 (by omega) (by omega) (by omega)
 have hk2 := markNoticeS_rng a0 1 (fun v h => (hp1 v h).2) k0 (by omega) (by omega)
 rw [hm.1, decide_eq_false (show ¬ (za (zub a0 a1).1 1).1 < 0 by omega), decide_eq_false (show ¬ (zvc a0 1).1 < 0 by omega)]
 simp
end Go.Ab
