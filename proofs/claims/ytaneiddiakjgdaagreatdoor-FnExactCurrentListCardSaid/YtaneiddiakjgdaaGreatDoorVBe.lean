/- A part of a proof: walks of functions and lemmas of our own. No conditions. -/
import Derived.Test.YtaneiddiakjgdaaGreatDoorVAl
import Derived.Test.YtaneiddiakjgdaaGreatDoorVAr
import Derived.Test.YtaneiddiakjgdaaGreatDoorVAs
import Derived.Test.YtaneiddiakjgdaaGreatDoorVAt
import Derived.Test.YtaneiddiakjgdaaGreatDoorVAz
import Derived.Test.YtaneiddiakjgdaaGreatDoorVAw
import Derived.Test.YtaneiddiakjgdaaGreatDoorVAv
import Derived.Test.YtaneiddiakjgdaaGreatDoorVAx
import Derived.Test.YtaneiddiakjgdaaGreatDoorVBa
import Derived.Test.YtaneiddiakjgdaaGreatDoorVAi
import Derived.Test.YtaneiddiakjgdaaGreatDoorVAn
import Derived.Test.YtaneiddiakjgdaaGreatDoorVBb
import Derived.Test.YtaneiddiakjgdaaGreatDoorVAp
set_option linter.unusedSectionVars false
set_option linter.unusedVariables false
set_option linter.unusedSimpArgs false
set_option maxHeartbeats 1000000
namespace Go.Ab
open Go Go.Proofs
def zsg (a0 : Notice) : Bool :=
 (bif (((!(zge a0.Number)) || (!(zqd a0.Day))) || (!(zd a0.Kind 1 4))) then false else (bif (zbh a0) then ((zob a0.Aid) && (a0.Target == 0)) else ((zqe a0.Aid ({ Number := 0, Name := [], At := { X := 0, Y := 0 : Point }, Height := 0, Mark := { Kind := 0, Colors := [], Shape := [], Topmark := [] : Mark }, Light := { Kind := 0, Group := [], Letter := [], Colors := [], Period := 0 : Character }, Sectors := [], Intensity := 0 : Aid })) && (zge a0.Target))))
namespace N124
theorem DD : DOk Tryz.prog (Go.Ab.DD [(139, dP D_zd), (143, dP D_zqe), (158, dP D_zge), (176, dP D_zbh), (73, dP D_zqd), (93, dP D_zob)]) := DD_cons D_zd_ok.e <| DD_cons D_zqe_ok.e <| DD_cons D_zge_ok.e <| DD_cons D_zbh_ok.e <| DD_cons D_zqd_ok.e <| DD_cons D_zob_ok.e <| DD_nil _
theorem dn : type_of% (And.intro @D_zd.eq_1 <| And.intro @D_zqe.eq_1 <| And.intro @D_zge.eq_1 <| And.intro @D_zbh.eq_1 <| And.intro @D_zqd.eq_1 <| @D_zob.eq_1) := by and_intros <;> intros <;> rfl
theorem ol : type_of% (@zd.eq_1) := @zd.eq_1
theorem den (a0 : Notice) (hb0 : bdNotice a0) : Den Tryz.prog 124 [.agg (eNotice a0)] (.bool (zsg a0)) := by
 generalize hR : zsg a0 = r
 unfold zsg at hR
 refine di Tryz.func124 Tryz.ntmps124 Tryz.results124 ?_
 intro c hL hc hk
 obtain ⟨hL0, _⟩ := hL
 have hw0 : bwNotice a0 := Notice_lens a0 hL0
 clear hL0
 simp only [pars, Nat.zero_add]
 iterate 2 refine rS ?_
 refine AWP.cond rfl (fun hb => ?_) (fun hb => ?_)
 ·replace hR := ct hR
  refine rS ?_
  refine AWP.ret ?_
  subst hR
  exact es
 ·replace hR := cf hR
  refine rS ?_
  refine AWP.cond rfl (fun hb => ?_) (fun hb => ?_)
  ·replace hR := ct hR
   refine rS ?_
   refine AWP.ret ?_
   subst hR
   exact es
  ·replace hR := cf hR
   refine rS ?_
   refine AWP.ret ?_
   subst hR
   exact es
end N124
def D_zsg : DF
 | [x0] => some (.bool (zsg (rdG dNotice x0)), false, [wG eNotice dNotice x0, bdNotice (rdG dNotice x0)])
 | _ => none
theorem D_zsg_ok : OkD Tryz.prog 124 D_zsg := by unfold D_zsg; exact dk N124.den
end Go.Ab

namespace Go.Ab
open Go Go.Proofs
def zbc_b1 (a0 : (List Notice)) (i1 : Nat) (s1 : Unit) : Except (Bool) (Unit) :=
 (bif (((!(zsg (a0.getD i1 default))) || (decide (0 < (i1 : Int)) && (decide (((a0.getD i1 default).Number) ≤ ((a0.getD ((IntKind.wrap .i64 ((i1 : Int) - 1)).toNat) default).Number)) || decide (((a0.getD i1 default).Day) < ((a0.getD ((IntKind.wrap .i64 ((i1 : Int) - 1)).toNat) default).Day))))) || ((((a0.getD i1 default).Kind) == 4) && (!(zkg (a0.getD i1 default) (subL a0 0 (i1)))))) then .error false else .ok ())
def zbc (a0 : (List Notice)) : Bool :=
 (match loopR (zbc_b1 a0) (a0.length - 0) 0 () with | .error e => e | .ok s1 => (zkb (a0.length : Int) 32))
namespace N72
theorem DD : DOk Tryz.prog (Go.Ab.DD [(112, dP D_zkb), (124, dP D_zsg), (125, dP D_zkg)]) := DD_cons D_zkb_ok.e <| DD_cons D_zsg_ok.e <| DD_cons D_zkg_ok.e <| DD_nil _
theorem dn : type_of% (And.intro @D_zkb.eq_1 <| And.intro @D_zsg.eq_1 <| @D_zkg.eq_1) := by and_intros <;> intros <;> rfl
theorem den (a0 : (List Notice)) (hb0 : a0.length < 1099511627776) (hb1 : ∀ v ∈ a0, bdNotice v) : Den Tryz.prog 72 [encL 20 eNotice a0] (.bool (zbc a0)) := by
 generalize hR : zbc a0 = r
 unfold zbc at hR
 refine di Tryz.func72 Tryz.ntmps72 Tryz.results72 ?_
 intro c hL hc hk
 obtain ⟨hL0, _⟩ := hL
 have hw0 : a0.length < 9223372036854775808 := Nat.lt_succ_of_le (lens_encL hL0).1
 have hw1 : ∀ v ∈ a0, bwNotice v := fun v hv => Notice_lens v ((lens_encL hL0).2 v hv)
 clear hL0
 simp only [pars, Nat.zero_add]
 iterate 2 refine rS ?_
 refine AWP.block ?_
 generalize hz1 : loopR (zbc_b1 a0) (a0.length - 0) 0 () = z1 at hR
 refine AWP.range (zbc_b1 a0) (fun i1 s1 => ⟨[(0, encL 20 eNotice a0), (5, encL 20 eNotice a0), (6, .int .i64 (a0.length : Int)), (7, .int .i64 (i1 : Int))], []⟩) (fun i1 s1 => True) (a0.length) 0 () [] hz1 ot wt sm ?_
 clear hz1
 intro i1 s1 hi1 hW1 hz1
 refine rS ?_
 refine AWP.seq ?_
 refine AWP.cond rfl (fun hb => ?_) (fun hb => ?_)
 ·have hlt1 : i1 < a0.length := ot
  rw [loopR_lt hlt1] at hz1; simp only [zbc_b1] at hz1
  refine rS ?_
  refine rD 42 ?_
  refine AWP.cond rfl (fun hb => ?_) (fun hb => ?_)
  ·simp only [hb, cond_true] at hz1
   refine rS ?_
   refine AWP.ret ?_
   subst hz1
   dsimp only at hR
   subst hR
   exact es
  ·simp only [hb, cond_false] at hz1
   refine rS ?_
   exact ⟨_, [], hlt1, wt, hz1, sm⟩
 ·obtain rfl : i1 = a0.length := ot
  rw [loopR_ge (Nat.le_refl _)] at hz1; subst hz1; dsimp only at hR
  refine AWP.exit ?_; refine exitTo_here ?_
  refine rS ?_
  refine AWP.ret ?_
  subst hR
  exact es
end N72
def D_zbc : DF
 | [x0] => some (.bool (zbc (rdL dNotice x0)), false, [wL 20 eNotice dNotice x0, (rdL dNotice x0).length < 1099511627776, ∀ v ∈ (rdL dNotice x0), bdNotice v])
 | _ => none
theorem D_zbc_ok : OkD Tryz.prog 72 D_zbc := by unfold D_zbc; exact dk N72.den
end Go.Ab

namespace Go.Ab
open Go Go.Proofs
def zfd (a0 : Notice) : Bool :=
 (bif ((!(ze a0.Number 1 9999)) || (!(zmc a0.Day))) then false else (bif (a0.Kind == 1) then ((zeb a0.Aid) && (a0.Target == 0)) else (bif (a0.Kind == 2) then ((zeb a0.Aid) && (a0.Target == 0)) else (bif (a0.Kind == 3) then ((zhb a0.Aid ({ Number := 0, Name := [], At := { X := 0, Y := 0 : Point }, Height := 0, Mark := { Kind := 0, Colors := [], Shape := [], Topmark := [] : Mark }, Light := { Kind := 0, Group := [], Letter := [], Colors := [], Period := 0 : Character }, Sectors := [], Intensity := 0 : Aid })) && (ze a0.Target 1 9999)) else (bif (a0.Kind == 4) then ((zhb a0.Aid ({ Number := 0, Name := [], At := { X := 0, Y := 0 : Point }, Height := 0, Mark := { Kind := 0, Colors := [], Shape := [], Topmark := [] : Mark }, Light := { Kind := 0, Group := [], Letter := [], Colors := [], Period := 0 : Character }, Sectors := [], Intensity := 0 : Aid })) && (ze a0.Target 1 9999)) else false)))))
namespace N120
theorem DD : DOk Tryz.prog (Go.Ab.DD [(105, dP D_zhb), (137, dP D_ze), (70, dP D_zmc), (87, dP D_zeb)]) := DD_cons D_zhb_ok.e <| DD_cons D_ze_ok.e <| DD_cons D_zmc_ok.e <| DD_cons D_zeb_ok.e <| DD_nil _
theorem dn : type_of% (And.intro @D_zhb.eq_1 <| And.intro @D_ze.eq_1 <| And.intro @D_zmc.eq_1 <| @D_zeb.eq_1) := by and_intros <;> intros <;> rfl
theorem ol : type_of% (@ze.eq_1) := @ze.eq_1
theorem den (a0 : Notice) (hb0 : bdNotice a0) : Den Tryz.prog 120 [.ep (eNotice a0)] (.bool (zfd a0)) := by
 generalize hR : zfd a0 = r
 unfold zfd at hR
 refine di Tryz.func120 Tryz.ntmps120 Tryz.results120 ?_
 intro c hL hc hk
 obtain ⟨hL0, _⟩ := hL
 have hw0 : bwNotice a0 := Notice_lens a0 hL0
 clear hL0
 simp only [pars, Nat.zero_add]
 iterate 2 refine rS ?_
 refine AWP.cond rfl (fun hb => ?_) (fun hb => ?_)
 ·replace hR := ct hR
  refine rS ?_
  refine AWP.ret ?_
  subst hR
  exact es
 ·replace hR := cf hR
  iterate 3 refine rS ?_
  refine AWP.cond rfl (fun hb => ?_) (fun hb => ?_)
  ·replace hR := ct hR
   refine AWP.skip ?_
   refine AWP.cond rfl (fun hb => ?_) (fun hb => ?_)
   ·refine rS ?_
    refine AWP.ret ?_
    subst hR
    exact es
   ·exfalso; simp_all
  ·replace hR := cf hR
   refine rS ?_
   refine AWP.cond rfl (fun hb => ?_) (fun hb => ?_)
   ·replace hR := ct hR
    refine rS ?_
    refine AWP.ret ?_
    subst hR
    exact es
   ·replace hR := cf hR
    refine rS ?_
    refine AWP.cond rfl (fun hb => ?_) (fun hb => ?_)
    ·replace hR := ct hR
     refine AWP.skip ?_
     refine AWP.cond rfl (fun hb => ?_) (fun hb => ?_)
     ·refine rS ?_
      refine AWP.ret ?_
      subst hR
      exact es
     ·exfalso; simp_all
    ·replace hR := cf hR
     refine rS ?_
     refine AWP.cond rfl (fun hb => ?_) (fun hb => ?_)
     ·replace hR := ct hR
      refine rS ?_
      refine AWP.ret ?_
      subst hR
      exact es
     ·replace hR := cf hR
      refine rS ?_
      refine AWP.ret ?_
      subst hR
      exact es
end N120
def D_zfd : DF
 | [x0] => some (.bool (zfd (rdP dNotice x0)), false, [wP eNotice dNotice x0, bdNotice (rdP dNotice x0)])
 | _ => none
theorem D_zfd_ok : OkD Tryz.prog 120 D_zfd := by unfold D_zfd; exact dk N120.den
end Go.Ab

namespace Go.Ab
open Go Go.Proofs
def zjb_b1 (a0 : (List Notice)) (i1 : Nat) (s1 : Unit) : Except (Bool) (Unit) :=
 (bif (((!(zfd (a0.getD i1 default))) || (decide (0 < (i1 : Int)) && (decide (((a0.getD i1 default).Number) ≤ ((a0.getD ((IntKind.wrap .i64 ((i1 : Int) - 1)).toNat) default).Number)) || decide (((a0.getD i1 default).Day) < ((a0.getD ((IntKind.wrap .i64 ((i1 : Int) - 1)).toNat) default).Day))))) || (!(zwd (subL a0 0 (i1)) (a0.getD i1 default)))) then .error false else .ok ())
def zjb (a0 : (List Notice)) : Bool :=
 (match loopR (zjb_b1 a0) (a0.length - 0) 0 () with | .error e => e | .ok s1 => decide ((a0.length : Int) ≤ 32))
namespace N69
theorem DD : DOk Tryz.prog (Go.Ab.DD [(120, dP D_zfd), (121, dP D_zwd)]) := DD_cons D_zfd_ok.e <| DD_cons D_zwd_ok.e <| DD_nil _
theorem dn : type_of% (And.intro @D_zfd.eq_1 <| @D_zwd.eq_1) := by and_intros <;> intros <;> rfl
theorem den (a0 : (List Notice)) (hb0 : a0.length < 1099511627776) (hb1 : ∀ v ∈ a0, bdNotice v) : Den Tryz.prog 69 [encL 20 eNotice a0] (.bool (zjb a0)) := by
 generalize hR : zjb a0 = r
 unfold zjb at hR
 refine di Tryz.func69 Tryz.ntmps69 Tryz.results69 ?_
 intro c hL hc hk
 obtain ⟨hL0, _⟩ := hL
 have hw0 : a0.length < 9223372036854775808 := Nat.lt_succ_of_le (lens_encL hL0).1
 have hw1 : ∀ v ∈ a0, bwNotice v := fun v hv => Notice_lens v ((lens_encL hL0).2 v hv)
 clear hL0
 simp only [pars, Nat.zero_add]
 iterate 2 refine rS ?_
 refine AWP.block ?_
 generalize hz1 : loopR (zjb_b1 a0) (a0.length - 0) 0 () = z1 at hR
 refine AWP.range (zjb_b1 a0) (fun i1 s1 => ⟨[(0, encL 20 eNotice a0), (3, .int .i64 (i1 : Int))], []⟩) (fun i1 s1 => True) (a0.length) 0 () [] hz1 ot wt sm ?_
 clear hz1
 intro i1 s1 hi1 hW1 hz1
 refine rS ?_
 refine AWP.cond rfl (fun hb => ?_) (fun hb => ?_)
 ·have hlt1 : i1 < a0.length := ot
  rw [loopR_lt hlt1] at hz1; simp only [zjb_b1] at hz1
  refine rS ?_
  refine rD 41 ?_
  refine AWP.cond rfl (fun hb => ?_) (fun hb => ?_)
  ·simp only [hb, cond_true] at hz1
   refine rS ?_
   refine AWP.ret ?_
   subst hz1
   dsimp only at hR
   subst hR
   exact es
  ·simp only [hb, cond_false] at hz1
   refine rS ?_
   exact ⟨_, [], hlt1, wt, hz1, sm⟩
 ·obtain rfl : i1 = a0.length := ot
  rw [loopR_ge (Nat.le_refl _)] at hz1; subst hz1; dsimp only at hR
  refine AWP.exit ?_; refine exitTo_here ?_
  refine rS ?_
  refine AWP.ret ?_
  subst hR
  exact es
end N69
def D_zjb : DF
 | [x0] => some (.bool (zjb (rdL dNotice x0)), false, [wL 20 eNotice dNotice x0, (rdL dNotice x0).length < 1099511627776, ∀ v ∈ (rdL dNotice x0), bdNotice v])
 | _ => none
theorem D_zjb_ok : OkD Tryz.prog 69 D_zjb := by unfold D_zjb; exact dk N69.den
end Go.Ab

namespace Go.Ab
open Go Go.Proofs
theorem valNotice_eq (n : Notice) (h : aidL n.Aid) : zsg n = zfd n := by
 unfold zsg zfd zbh
 rw [validAid_eq _ h.1 h.2]
 simp only [sameAid_eq]
 have e1 : zge n.Number = ze n.Number 1 9999 := rfl
 have e2 : zge n.Target = ze n.Target 1 9999 := rfl
 have e3 : zqd n.Day = zmc n.Day := rfl
 have e4 : zd n.Kind 1 4 = ((((n.Kind == 1) || (n.Kind == 2)) || (n.Kind == 3)) || (n.Kind == 4)) := by
  unfold zd
  apply Bool.eq_iff_iff.2
  simp only [Bool.and_eq_true, Bool.or_eq_true, decide_eq_true_eq, beq_iff_eq]
  omega
 rw [e1, e2, e3, e4]
 cases ze n.Number 1 9999 <;> cases zmc n.Day <;> cases (n.Kind == 1) <;> cases (n.Kind == 2) <;> cases (n.Kind == 3) <;> cases (n.Kind == 4) <;> rfl
theorem cancelled_any (l : List Notice) (t d : Int) : zac l t d = l.any (fun m => ((m.Kind == 4) && (m.Target == t)) && decide (m.Day ≤ d)) := by
 unfold zac
 rw [loopR_any (b := zac_b1 l t d) (fun j => (((l.getD j default).Kind == 4) && ((l.getD j default).Target == t)) && decide ((l.getD j default).Day ≤ d)) true (fun j u _ _ => rfl)]
 simp only [Nat.sub_zero, Nat.zero_add]
 rw [any_range_getD (fun m : Notice => ((m.Kind == 4) && (m.Target == t)) && decide (m.Day ≤ d)) l]
 cases l.any (fun m => ((m.Kind == 4) && (m.Target == t)) && decide (m.Day ≤ d)) <;> rfl
theorem contains2_any (l : List Notice) (n : Notice) : zxe l n = l.any (fun m => (m.Kind == 4) && (m.Target == n.Target)) := by
 unfold zxe zrd
 have ha := any_range_getD (fun m : Notice => (m.Kind == 4) && (m.Target == n.Target)) l
 rcases loopR_first (b := zrd_b1 l n) (fun j => ((l.getD j default).Kind == 4) && ((l.getD j default).Target == n.Target)) (fun j => (j : Int)) (k := l.length - 0) (i := 0) (s := ()) (fun j u _ _ => rfl) with ⟨j, _, h2, h3, h4, h5⟩ | ⟨h1, h2⟩
 ·rw [h5]
  rw [← ha, List.any_eq_true.2 ⟨j, by simpa using h2, h3⟩]
  simp
 ·rw [h2, ← ha]
  have : (List.range l.length).any (fun i => (((l.getD i default).Kind == 4) && ((l.getD i default).Target == n.Target))) = false := by
   rw [List.any_eq_false]
   intro i hi
   rw [h1 i (Nat.zero_le _) (by simpa using hi)]
   simp
  rw [this]; rfl
theorem inForce1_any (l : List Notice) (n : Notice) (d : Int) : zre l n d = zac l n.Number d := by
 rw [cancelled_any]
 unfold zre zsd
 have ha := any_range_getD (fun m : Notice => ((m.Kind == 4) && (m.Target == n.Number)) && decide (m.Day ≤ d)) l
 rcases loopR_first (b := zsd_b1 l n d) (fun j => (((l.getD j default).Kind == 4) && ((l.getD j default).Target == n.Number)) && decide ((l.getD j default).Day ≤ d)) (fun j => (j : Int)) (k := l.length - 0) (i := 0) (s := ()) (fun j u _ _ => rfl) with ⟨j, _, h2, h3, h4, h5⟩ | ⟨h1, h2⟩
 ·rw [h5]
  rw [← ha, List.any_eq_true.2 ⟨j, by simpa using h2, h3⟩]
  simp
 ·rw [h2, ← ha]
  have : (List.range l.length).any (fun i => ((((l.getD i default).Kind == 4) && ((l.getD i default).Target == n.Number)) && decide ((l.getD i default).Day ≤ d))) = false := by
   rw [List.any_eq_false]
   intro i hi
   rw [h1 i (Nat.zero_le _) (by simpa using hi)]
   simp
  rw [this]; rfl
theorem cancel_eq (l : List Notice) (n : Notice) (hd : ∀ m ∈ l, m.Day ≤ 99999) : ((n.Kind == 4) && (!(zkg n l))) = !(zwd l n) := by
 unfold zwd
 cases hk : (n.Kind == 4) with
 | false =>
  have : (n.Kind != 4) = true := by simp only [bne, hk]; rfl
  rw [this]; rfl
 | true =>
  have : (n.Kind != 4) = false := by simp only [bne, hk]; rfl
  rw [this, cond_false, Bool.true_and]
  congr 1
  unfold zkg
  rw [contains2_any]
  have hc : l.any (fun m => (m.Kind == 4) && (m.Target == n.Target)) = zac l n.Target 99999 := by
   rw [cancelled_any]
   apply Bool.eq_iff_iff.2
   rw [List.any_eq_true, List.any_eq_true]
   constructor
   ·rintro ⟨x, hx, h⟩; exact ⟨x, hx, by rw [h]; simpa using hd x hx⟩
   ·rintro ⟨x, hx, h⟩; exact ⟨x, hx, by rw [Bool.and_eq_true] at h; exact h.1⟩
  rw [hc]
  rcases zlb_first l n with ⟨j, h1, h2, h3, h4⟩ | ⟨h1, h2⟩
  ·rw [h4]
   rcases loopR_first (b := zwd_b1 l n) (fun j => (l.getD j default).Number == n.Target) (fun j => ((((l.getD j default).Kind) != 4) && (!(zac l n.Target 99999)))) (k := l.length - 0) (i := 0) (s := ()) (fun j u _ _ => rfl) with ⟨q, _, g2, g3, g4, g5⟩ | ⟨g1, _⟩
   ·have : q = j := by
     rcases Nat.lt_trichotomy q j with h | h | h
     ·have := h3 q h
      unfold zhe at this
      rw [this] at g3; cases g3
     ·exact h
     ·have := g4 j (Nat.zero_le _) h
      unfold zhe at h2
      rw [this] at h2; cases h2
    subst this
    rw [g5, decide_eq_false (by omega), Bool.false_or, Int.toNat_natCast]
    simp only [bne]
    cases ((l.getD q default).Kind == 4) <;> rfl
   ·have := g1 j (Nat.zero_le _) (by omega)
    unfold zhe at h2
    rw [this] at h2; cases h2
  ·rw [h2]
   rcases loopR_first (b := zwd_b1 l n) (fun j => (l.getD j default).Number == n.Target) (fun j => ((((l.getD j default).Kind) != 4) && (!(zac l n.Target 99999)))) (k := l.length - 0) (i := 0) (s := ()) (fun j u _ _ => rfl) with ⟨q, _, g2, g3, g4, g5⟩ | ⟨_, g2⟩
   ·have := h1 q (by omega)
    unfold zhe at this
    rw [this] at g3; cases g3
   ·rw [g2]; rfl
theorem aidL_default : aidL (default : Notice).Aid := ⟨by decide, by decide⟩
theorem one_day {n : Notice} (h : zfd n = true) : n.Day ≤ 99999 := by
 unfold zfd at h
 cases hd : zmc n.Day with
 | false => rw [hd] at h; simp at h
 | true =>
  unfold zmc ze at hd
  simp only [Bool.and_eq_true, decide_eq_true_eq] at hd
  exact hd.2
theorem valNotices_eq (l : List Notice) (h : ∀ n ∈ l, aidL n.Aid) : zbc l = zjb l := by
 unfold zbc zjb
 rw [loopR_sameP (b := zbc_b1 l) (b' := zjb_b1 l) (fun j => (l.getD j default).Day ≤ 99999) (fun j hj => by
  simp only [zjb_b1] at hj
  cases hc : zfd (l.getD j default) with
  | true => exact one_day hc
  | false => rw [hc] at hj; simp at hj) (l.length - 0) 0 (fun q hq => absurd hq (Nat.not_lt_zero _)) (fun j _ hj hp => by
   simp only [zbc_b1, zjb_b1]
   have hb : aidL (l.getD j default).Aid := bd_getD (p := fun n : Notice => aidL n.Aid) h aidL_default j
   rw [valNotice_eq _ hb, cancel_eq (subL l 0 j) (l.getD j default) (fun m hm => by
    rw [subL_take l _ (by omega)] at hm
    obtain ⟨q, hq, rfl⟩ := List.getElem_of_mem hm
    simp only [List.length_take] at hq
    have := hp q (by omega)
    rw [List.getD_eq_getElem?_getD, List.getElem?_eq_getElem (show q < l.length by omega)] at this
    simp only [List.getElem_take]
    exact this)])]
 rfl
def inF (l : List Notice) (d : Int) (n : Notice) : Bool := ((n.Kind != 4) && decide (n.Day ≤ d)) && !(zac l n.Number d)
theorem force_eq (l : List Notice) (i : Nat) (d : Int) : zue l (i : Int) d = inF l d (l.getD i default) := by
 unfold zue inF
 rw [Int.toNat_natCast]
 cases (l.getD i default).Kind != 4 <;> cases decide ((l.getD i default).Day ≤ d) <;> rfl
theorem inForce_eq (l : List Notice) (d : Int) : zl l d = l.filter (inF l d) := by
 unfold zl
 rw [loopR_filter l (zl_b1 l d) (inF l d) (fun x => x) (fun i s hi => by simp only [zl_b1, inForce1_any]; rfl)]
 simp
theorem l21_all {l : List Notice} (h : zjb l = true) : (∀ n ∈ l, zfd n = true) ∧ l.length ≤ 32 := by
 unfold zjb at h
 have h := (loopR_allF (b := zjb_b1 l) (fun i1 => (((!(zfd (l.getD i1 default))) || (decide (0 < (i1 : Int)) && (decide (((l.getD i1 default).Number) ≤ ((l.getD ((IntKind.wrap .i64 ((i1 : Int) - 1)).toNat) default).Number)) || decide (((l.getD i1 default).Day) < ((l.getD ((IntKind.wrap .i64 ((i1 : Int) - 1)).toNat) default).Day))))) || (!(zwd (subL l 0 (i1)) (l.getD i1 default))))) l.length _ (fun j u _ => rfl)).1 h
 refine ⟨fun n hn => ?_, by have := of_decide_eq_true h.2; omega⟩
 obtain ⟨j, hj, rfl⟩ := List.getElem_of_mem hn
 have := h.1 j hj
 rw [Bool.or_eq_false_iff, Bool.or_eq_false_iff] at this
 have h3 := this.1.1
 rw [List.getD_eq_getElem?_getD, List.getElem?_eq_getElem hj] at h3
 simpa using h3
end Go.Ab

namespace Go.Ab
open Go Go.Proofs
theorem l21Ok_len {a : List Notice} (h : zjb a = true) : a.length ≤ 32 := by
 unfold zjb at h
 split at h
 ·rename_i e he
  obtain ⟨j, t, _, _, h3⟩ := loopR_error he
  simp only [zjb_b1, Bool.cond_eq_ite] at h3
  split at h3
  ·cases h3; cases h
  ·cases h3
 ·have := of_decide_eq_true h; omega
theorem vNts_len {a : List Notice} (h : zbc a = true) : a.length ≤ 32 := by
 unfold zbc at h
 split at h
 ·rename_i e he
  obtain ⟨j, t, _, _, h3⟩ := loopR_error he
  simp only [zbc_b1, Bool.cond_eq_ite] at h3
  split at h3
  ·cases h3; cases h
  ·cases h3
 ·unfold zkb at h; have := of_decide_eq_true h; omega
end Go.Ab

namespace Go.Ab
open Go Go.Proofs
def zvc_b1 (a0 : (List Notice)) (a1 : Int) (i1 : Nat) (s1 : Int × List Notice) : Except (Int × (List Notice)) (Int × List Notice) :=
 .ok (IntKind.wrap .i64 (((zk (((s1.2.getD i1 default).Aid).Sectors) (IntKind.wrap .i64 ((IntKind.wrap .i64 ((IntKind.wrap .i64 (((za ((((s1.2.getD i1 default).Aid).Light).Group) (IntKind.wrap .i64 ((IntKind.wrap .i64 ((IntKind.wrap .i64 ((IntKind.wrap .i64 ((IntKind.wrap .i64 ((IntKind.wrap .i64 ((IntKind.wrap .i64 ((IntKind.wrap .i64 ((IntKind.wrap .i64 ((IntKind.wrap .i64 ((IntKind.wrap .i64 ((IntKind.wrap .i64 ((IntKind.wrap .i64 ((IntKind.wrap .i64 (s1.1 + 1)) + 1)) + 1)) + 1)) + 1)) + 1)) + 1)) + 1)) + 1)) + 1)) + 1)) + 1)) + 1)) + 1))).1) + 1)) + 1)) + 1))).1) + 1), s1.2.set i1 ({ Number := s1.1, Day := IntKind.wrap .i64 (s1.1 + 1), Kind := IntKind.wrap .i64 ((IntKind.wrap .i64 (s1.1 + 1)) + 1), Target := IntKind.wrap .i64 ((IntKind.wrap .i64 ((IntKind.wrap .i64 (s1.1 + 1)) + 1)) + 1), Aid := { Number := IntKind.wrap .i64 ((IntKind.wrap .i64 ((IntKind.wrap .i64 ((IntKind.wrap .i64 (s1.1 + 1)) + 1)) + 1)) + 1), Name := (zf (IntKind.wrap .i64 ((IntKind.wrap .i64 ((IntKind.wrap .i64 ((IntKind.wrap .i64 ((IntKind.wrap .i64 (s1.1 + 1)) + 1)) + 1)) + 1)) + 1))), At := { X := IntKind.wrap .i64 ((IntKind.wrap .i64 ((IntKind.wrap .i64 ((IntKind.wrap .i64 ((IntKind.wrap .i64 ((IntKind.wrap .i64 (s1.1 + 1)) + 1)) + 1)) + 1)) + 1)) + 1), Y := IntKind.wrap .i64 ((IntKind.wrap .i64 ((IntKind.wrap .i64 ((IntKind.wrap .i64 ((IntKind.wrap .i64 ((IntKind.wrap .i64 ((IntKind.wrap .i64 (s1.1 + 1)) + 1)) + 1)) + 1)) + 1)) + 1)) + 1) : Point }, Height := IntKind.wrap .i64 ((IntKind.wrap .i64 ((IntKind.wrap .i64 ((IntKind.wrap .i64 ((IntKind.wrap .i64 ((IntKind.wrap .i64 ((IntKind.wrap .i64 ((IntKind.wrap .i64 (s1.1 + 1)) + 1)) + 1)) + 1)) + 1)) + 1)) + 1)) + 1), Mark := { Kind := IntKind.wrap .i64 ((IntKind.wrap .i64 ((IntKind.wrap .i64 ((IntKind.wrap .i64 ((IntKind.wrap .i64 ((IntKind.wrap .i64 ((IntKind.wrap .i64 ((IntKind.wrap .i64 ((IntKind.wrap .i64 (s1.1 + 1)) + 1)) + 1)) + 1)) + 1)) + 1)) + 1)) + 1)) + 1), Colors := (zf (IntKind.wrap .i64 ((IntKind.wrap .i64 ((IntKind.wrap .i64 ((IntKind.wrap .i64 ((IntKind.wrap .i64 ((IntKind.wrap .i64 ((IntKind.wrap .i64 ((IntKind.wrap .i64 ((IntKind.wrap .i64 ((IntKind.wrap .i64 (s1.1 + 1)) + 1)) + 1)) + 1)) + 1)) + 1)) + 1)) + 1)) + 1)) + 1))), Shape := (zf (IntKind.wrap .i64 ((IntKind.wrap .i64 ((IntKind.wrap .i64 ((IntKind.wrap .i64 ((IntKind.wrap .i64 ((IntKind.wrap .i64 ((IntKind.wrap .i64 ((IntKind.wrap .i64 ((IntKind.wrap .i64 ((IntKind.wrap .i64 ((IntKind.wrap .i64 (s1.1 + 1)) + 1)) + 1)) + 1)) + 1)) + 1)) + 1)) + 1)) + 1)) + 1)) + 1))), Topmark := (zf (IntKind.wrap .i64 ((IntKind.wrap .i64 ((IntKind.wrap .i64 ((IntKind.wrap .i64 ((IntKind.wrap .i64 ((IntKind.wrap .i64 ((IntKind.wrap .i64 ((IntKind.wrap .i64 ((IntKind.wrap .i64 ((IntKind.wrap .i64 ((IntKind.wrap .i64 ((IntKind.wrap .i64 (s1.1 + 1)) + 1)) + 1)) + 1)) + 1)) + 1)) + 1)) + 1)) + 1)) + 1)) + 1)) + 1))) : Mark }, Light := { Kind := IntKind.wrap .i64 ((IntKind.wrap .i64 ((IntKind.wrap .i64 ((IntKind.wrap .i64 ((IntKind.wrap .i64 ((IntKind.wrap .i64 ((IntKind.wrap .i64 ((IntKind.wrap .i64 ((IntKind.wrap .i64 ((IntKind.wrap .i64 ((IntKind.wrap .i64 ((IntKind.wrap .i64 ((IntKind.wrap .i64 (s1.1 + 1)) + 1)) + 1)) + 1)) + 1)) + 1)) + 1)) + 1)) + 1)) + 1)) + 1)) + 1)) + 1), Group := (za ((((s1.2.getD i1 default).Aid).Light).Group) (IntKind.wrap .i64 ((IntKind.wrap .i64 ((IntKind.wrap .i64 ((IntKind.wrap .i64 ((IntKind.wrap .i64 ((IntKind.wrap .i64 ((IntKind.wrap .i64 ((IntKind.wrap .i64 ((IntKind.wrap .i64 ((IntKind.wrap .i64 ((IntKind.wrap .i64 ((IntKind.wrap .i64 ((IntKind.wrap .i64 ((IntKind.wrap .i64 (s1.1 + 1)) + 1)) + 1)) + 1)) + 1)) + 1)) + 1)) + 1)) + 1)) + 1)) + 1)) + 1)) + 1)) + 1))).2, Letter := (zf ((za ((((s1.2.getD i1 default).Aid).Light).Group) (IntKind.wrap .i64 ((IntKind.wrap .i64 ((IntKind.wrap .i64 ((IntKind.wrap .i64 ((IntKind.wrap .i64 ((IntKind.wrap .i64 ((IntKind.wrap .i64 ((IntKind.wrap .i64 ((IntKind.wrap .i64 ((IntKind.wrap .i64 ((IntKind.wrap .i64 ((IntKind.wrap .i64 ((IntKind.wrap .i64 ((IntKind.wrap .i64 (s1.1 + 1)) + 1)) + 1)) + 1)) + 1)) + 1)) + 1)) + 1)) + 1)) + 1)) + 1)) + 1)) + 1)) + 1))).1)), Colors := (zf (IntKind.wrap .i64 (((za ((((s1.2.getD i1 default).Aid).Light).Group) (IntKind.wrap .i64 ((IntKind.wrap .i64 ((IntKind.wrap .i64 ((IntKind.wrap .i64 ((IntKind.wrap .i64 ((IntKind.wrap .i64 ((IntKind.wrap .i64 ((IntKind.wrap .i64 ((IntKind.wrap .i64 ((IntKind.wrap .i64 ((IntKind.wrap .i64 ((IntKind.wrap .i64 ((IntKind.wrap .i64 ((IntKind.wrap .i64 (s1.1 + 1)) + 1)) + 1)) + 1)) + 1)) + 1)) + 1)) + 1)) + 1)) + 1)) + 1)) + 1)) + 1)) + 1))).1) + 1))), Period := IntKind.wrap .i64 ((IntKind.wrap .i64 (((za ((((s1.2.getD i1 default).Aid).Light).Group) (IntKind.wrap .i64 ((IntKind.wrap .i64 ((IntKind.wrap .i64 ((IntKind.wrap .i64 ((IntKind.wrap .i64 ((IntKind.wrap .i64 ((IntKind.wrap .i64 ((IntKind.wrap .i64 ((IntKind.wrap .i64 ((IntKind.wrap .i64 ((IntKind.wrap .i64 ((IntKind.wrap .i64 ((IntKind.wrap .i64 ((IntKind.wrap .i64 (s1.1 + 1)) + 1)) + 1)) + 1)) + 1)) + 1)) + 1)) + 1)) + 1)) + 1)) + 1)) + 1)) + 1)) + 1))).1) + 1)) + 1) : Character }, Sectors := (zk (((s1.2.getD i1 default).Aid).Sectors) (IntKind.wrap .i64 ((IntKind.wrap .i64 ((IntKind.wrap .i64 (((za ((((s1.2.getD i1 default).Aid).Light).Group) (IntKind.wrap .i64 ((IntKind.wrap .i64 ((IntKind.wrap .i64 ((IntKind.wrap .i64 ((IntKind.wrap .i64 ((IntKind.wrap .i64 ((IntKind.wrap .i64 ((IntKind.wrap .i64 ((IntKind.wrap .i64 ((IntKind.wrap .i64 ((IntKind.wrap .i64 ((IntKind.wrap .i64 ((IntKind.wrap .i64 ((IntKind.wrap .i64 (s1.1 + 1)) + 1)) + 1)) + 1)) + 1)) + 1)) + 1)) + 1)) + 1)) + 1)) + 1)) + 1)) + 1)) + 1))).1) + 1)) + 1)) + 1))).2, Intensity := ((zk (((s1.2.getD i1 default).Aid).Sectors) (IntKind.wrap .i64 ((IntKind.wrap .i64 ((IntKind.wrap .i64 (((za ((((s1.2.getD i1 default).Aid).Light).Group) (IntKind.wrap .i64 ((IntKind.wrap .i64 ((IntKind.wrap .i64 ((IntKind.wrap .i64 ((IntKind.wrap .i64 ((IntKind.wrap .i64 ((IntKind.wrap .i64 ((IntKind.wrap .i64 ((IntKind.wrap .i64 ((IntKind.wrap .i64 ((IntKind.wrap .i64 ((IntKind.wrap .i64 ((IntKind.wrap .i64 ((IntKind.wrap .i64 (s1.1 + 1)) + 1)) + 1)) + 1)) + 1)) + 1)) + 1)) + 1)) + 1)) + 1)) + 1)) + 1)) + 1)) + 1))).1) + 1)) + 1)) + 1))).1) : Aid } : Notice }))
def zvc (a0 : (List Notice)) (a1 : Int) : Int × (List Notice) :=
 (match loopR (zvc_b1 a0 a1) (a0.length - 0) 0 (a1, a0) with | .error e => e | .ok s1 => (s1.1, s1.2))
namespace N19
theorem DD : DOk Tryz.prog (Go.Ab.DD [(20, dM [true, false] D_za), (75, dP D_zf), (76, dM [true, false] D_zk)]) := DD_cons D_za_ok.e <| DD_cons D_zf_ok.e <| DD_cons D_zk_ok.e <| DD_nil _
theorem dn : type_of% (And.intro @D_za.eq_1 <| And.intro @D_zf.eq_1 <| And.intro @D_zk.eq_1 <| And.intro @za_sub <| @markSectorS_sub) := And.intro @D_za.eq_1 <| And.intro @D_zf.eq_1 <| And.intro @D_zk.eq_1 <| And.intro @za_sub <| @markSectorS_sub
theorem ol : type_of% (And.intro @za_len <| @markSectorS_len) := And.intro @za_len <| @markSectorS_len
theorem gr {p : Prop} (h : p := by (grind [za_len, markSectorS_le]); first | done | fail) : p := h
theorem o1 {p : Prop} (h : p := by (first | (exact mrg) | (first | exact markInt64S_le _ _ (by exact mrg) | exact markSectorS_le _ _ (by exact mrg) | exact markInt64S_le _ _ (wrap_le _) | exact markSectorS_le _ _ (wrap_le _))); first | done | fail) : p := h
theorem o2 {p : Prop} (h : p := by (first | (and_intros <;> first | rfl | decide | (rw [IntKind.wrap_i64]; omega) | (simp only [List.length_set]; (first | done | fail)) | (intro j hj; by_cases hji : j = i1; (focus (subst hji; simp only [set_same hj, Nat.beq_refl, beq_self_eq_true, cond_true, ol]; first | (first | done | fail) | rfl | (and_intros <;> rfl))); (simp only [set_other hji, beqF hji, cond_false]; first | (first | done | fail) | rfl | (and_intros <;> rfl))))); first | done | fail) : p := h
set_option maxHeartbeats 4000000 in
set_option maxRecDepth 20000 in
theorem den (a0 : (List Notice)) (a1 : Int) (hp0 : a1 ≤ 9223372036854775807) : DenD Tryz.prog 19 [ownL 90 20 eNoticeO a0, .int .i64 a1] (.int .i64 ((zvc a0 a1).1)) [(ownL 90 20 eNoticeO ((zvc a0 a1).2)), .any] := by
 generalize hR : zvc a0 a1 = r
 unfold zvc at hR
 refine den_introD (gb := [true, false]) G_ok Tryz.func19 (by kernel_rfl) rfl Tryz.ntmps19 (by rw [Tryz.results19]) (by simp) ?_
 intro c hdp hL hc hk
 obtain ⟨hL0, hL1, _⟩ := hL
 have hw0 : a0.length < 9223372036854775808 := Nat.lt_succ_of_le (lens_ownL hL0).1
 have hw1 : ∀ v ∈ a0, bwNotice v := fun v hv => Notice_lensO v ((lens_ownL hL0).2 v hv)
 clear hL0 hL1
 simp only [adEL, adE, adRL, adR, ownL, encL, sv, List.nil_append, List.append_nil, List.cons_append, List.length_cons, List.length_nil, pars, Nat.zero_add, Nat.reduceAdd] at hk ⊢
 iterate 2 refine rS ?_
 refine AWP.block ?_
 generalize hz1 : loopR (zvc_b1 a0 a1) (a0.length - 0) 0 (a1, a0) = z1 at hR
 refine AWP.range (zvc_b1 a0 a1) (fun i1 s1 => ⟨[(0, .ref 0 20 0 s1.2.length), (1, .int .i64 s1.1), (5, .int .i64 (i1 : Int))], [.arr 90 20 s1.2.length (fun j => eNoticeO (s1.2.getD j default))]⟩) (fun i1 s1 => s1.2.length = a0.length ∧ s1.1 ≤ 9223372036854775807) (a0.length) 0 (a1, a0) [0] hz1 ot wt sm ?_
 clear hz1
 intro i1 s1 hi1 hW1 hz1
 refine rS ?_
 refine AWP.cond rfl (fun hb => ?_) (fun hb => ?_)
 ·have hlt1 : i1 < a0.length := ot
  rw [loopR_lt hlt1] at hz1; simp only [zvc_b1] at hz1
  refine rS ?_
  refine AWP.keepT [0, 1, 5] ?_; simp only [List.map, putL, dropL, Nat.beq_refl, cond_true, ea, absV, absVL, cput, gv, sv, dn, reduceCtorEq, reduceIte, Nat.reduceBEq, Nat.reduceAdd, Nat.reduceEqDiff, Nat.reduceLT, Nat.reduceLeDiff, Nat.reduceMul, Nat.reduceSub, BEq.rfl, beq_self_eq_true, Int.reduceToNat]
  iterate 5 refine rS ?_
  refine AWP.keepT [0, 1, 5] ?_; simp only [List.map, putL, dropL, Nat.beq_refl, cond_true, ea, absV, absVL, cput, gv, sv, dn, reduceCtorEq, reduceIte, Nat.reduceBEq, Nat.reduceAdd, Nat.reduceEqDiff, Nat.reduceLT, Nat.reduceLeDiff, Nat.reduceMul, Nat.reduceSub, BEq.rfl, beq_self_eq_true, Int.reduceToNat]
  iterate 5 refine rS ?_
  refine AWP.keepT [0, 1, 5] ?_; simp only [List.map, putL, dropL, Nat.beq_refl, cond_true, ea, absV, absVL, cput, gv, sv, dn, reduceCtorEq, reduceIte, Nat.reduceBEq, Nat.reduceAdd, Nat.reduceEqDiff, Nat.reduceLT, Nat.reduceLeDiff, Nat.reduceMul, Nat.reduceSub, BEq.rfl, beq_self_eq_true, Int.reduceToNat]
  iterate 5 refine rS ?_
  refine AWP.keepT [0, 1, 5] ?_; simp only [List.map, putL, dropL, Nat.beq_refl, cond_true, ea, absV, absVL, cput, gv, sv, dn, reduceCtorEq, reduceIte, Nat.reduceBEq, Nat.reduceAdd, Nat.reduceEqDiff, Nat.reduceLT, Nat.reduceLeDiff, Nat.reduceMul, Nat.reduceSub, BEq.rfl, beq_self_eq_true, Int.reduceToNat]
  iterate 5 refine rS ?_
  refine AWP.keepT [0, 1, 5] ?_; simp only [List.map, putL, dropL, Nat.beq_refl, cond_true, ea, absV, absVL, cput, gv, sv, dn, reduceCtorEq, reduceIte, Nat.reduceBEq, Nat.reduceAdd, Nat.reduceEqDiff, Nat.reduceLT, Nat.reduceLeDiff, Nat.reduceMul, Nat.reduceSub, BEq.rfl, beq_self_eq_true, Int.reduceToNat]
  iterate 5 refine rS ?_
  refine AWP.keepT [0, 1, 5] ?_; simp only [List.map, putL, dropL, Nat.beq_refl, cond_true, ea, absV, absVL, cput, gv, sv, dn, reduceCtorEq, reduceIte, Nat.reduceBEq, Nat.reduceAdd, Nat.reduceEqDiff, Nat.reduceLT, Nat.reduceLeDiff, Nat.reduceMul, Nat.reduceSub, BEq.rfl, beq_self_eq_true, Int.reduceToNat]
  iterate 2 refine rS ?_
  refine AWP.seq ?_
  refine AWP.openE rb 0 0 i1 14 rfl rfl ot (by simp only [putL, dropL, Nat.beq_refl, cond_true, ea, absV, absVL, cput, gv, sv, dn, reduceCtorEq, reduceIte, Nat.reduceBEq, Nat.reduceAdd, Nat.reduceEqDiff, Nat.reduceLT, Nat.reduceLeDiff, Nat.reduceMul, Nat.reduceSub, BEq.rfl, beq_self_eq_true, Int.reduceToNat]; rfl) ?_; simp only [putL, dropL, Nat.beq_refl, cond_true, ea, absV, absVL, cput, gv, sv, dn, reduceCtorEq, reduceIte, Nat.reduceBEq, Nat.reduceAdd, Nat.reduceEqDiff, Nat.reduceLT, Nat.reduceLeDiff, Nat.reduceMul, Nat.reduceSub, BEq.rfl, beq_self_eq_true, Int.reduceToNat]
  refine rS ?_
  simp only [ol]
  refine AWP.closeE 0 0 i1 14 1 rfl rfl rfl (by decide) ot (by simp only [putL, dropL, Nat.beq_refl, cond_true, ea, absV, absVL, cput, gv, sv, dn, reduceCtorEq, reduceIte, Nat.reduceBEq, Nat.reduceAdd, Nat.reduceEqDiff, Nat.reduceLT, Nat.reduceLeDiff, Nat.reduceMul, Nat.reduceSub, BEq.rfl, beq_self_eq_true, Int.reduceToNat]; rfl) (fun k hk => by rfl) ?_; simp only [putL, dropL, Nat.beq_refl, cond_true, ea, absV, absVL, cput, gv, sv, dn, reduceCtorEq, reduceIte, Nat.reduceBEq, Nat.reduceAdd, Nat.reduceEqDiff, Nat.reduceLT, Nat.reduceLeDiff, Nat.reduceMul, Nat.reduceSub, BEq.rfl, beq_self_eq_true, Int.reduceToNat]
  iterate 2 refine rS ?_
  refine AWP.keepT [0, 1, 5] ?_; simp only [List.map, putL, dropL, Nat.beq_refl, cond_true, ea, absV, absVL, cput, gv, sv, dn, reduceCtorEq, reduceIte, Nat.reduceBEq, Nat.reduceAdd, Nat.reduceEqDiff, Nat.reduceLT, Nat.reduceLeDiff, Nat.reduceMul, Nat.reduceSub, BEq.rfl, beq_self_eq_true, Int.reduceToNat]
  iterate 4 refine rS ?_
  refine AWP.seq ?_
  refine AWP.openE rb 0 0 i1 18 rfl rfl ot (by simp only [putL, dropL, Nat.beq_refl, cond_true, ea, absV, absVL, cput, gv, sv, dn, reduceCtorEq, reduceIte, Nat.reduceBEq, Nat.reduceAdd, Nat.reduceEqDiff, Nat.reduceLT, Nat.reduceLeDiff, Nat.reduceMul, Nat.reduceSub, BEq.rfl, beq_self_eq_true, Int.reduceToNat]; rfl) ?_; simp only [putL, dropL, Nat.beq_refl, cond_true, ea, absV, absVL, cput, gv, sv, dn, reduceCtorEq, reduceIte, Nat.reduceBEq, Nat.reduceAdd, Nat.reduceEqDiff, Nat.reduceLT, Nat.reduceLeDiff, Nat.reduceMul, Nat.reduceSub, BEq.rfl, beq_self_eq_true, Int.reduceToNat]
  refine rS ?_
  simp only [ol]
  refine AWP.closeE 0 0 i1 18 2 rfl rfl rfl (by decide) ot (by simp only [putL, dropL, Nat.beq_refl, cond_true, ea, absV, absVL, cput, gv, sv, dn, reduceCtorEq, reduceIte, Nat.reduceBEq, Nat.reduceAdd, Nat.reduceEqDiff, Nat.reduceLT, Nat.reduceLeDiff, Nat.reduceMul, Nat.reduceSub, BEq.rfl, beq_self_eq_true, Int.reduceToNat]; rfl) (fun k hk => by rfl) ?_; simp only [putL, dropL, Nat.beq_refl, cond_true, ea, absV, absVL, cput, gv, sv, dn, reduceCtorEq, reduceIte, Nat.reduceBEq, Nat.reduceAdd, Nat.reduceEqDiff, Nat.reduceLT, Nat.reduceLeDiff, Nat.reduceMul, Nat.reduceSub, BEq.rfl, beq_self_eq_true, Int.reduceToNat]
  refine AWP.keepT [0, 1, 5] ?_; simp only [List.map, putL, dropL, Nat.beq_refl, cond_true, ea, absV, absVL, cput, gv, sv, dn, reduceCtorEq, reduceIte, Nat.reduceBEq, Nat.reduceAdd, Nat.reduceEqDiff, Nat.reduceLT, Nat.reduceLeDiff, Nat.reduceMul, Nat.reduceSub, BEq.rfl, beq_self_eq_true, Int.reduceToNat]
  iterate 3 refine rS ?_
  exact ⟨_, [0], hlt1, by (exact mrg), hz1, sm⟩
 ·obtain rfl : i1 = a0.length := ot
  rw [loopR_ge (Nat.le_refl _)] at hz1; subst hz1; dsimp only at hR
  refine AWP.exit ?_; refine exitTo_here ?_
  refine rS ?_
  refine AWP.ret ?_
  subst hR
  exact es
end N19
end Go.Ab
