/- A part of a proof: walks of functions and lemmas of our own. No conditions. -/
import Derived.Test.YtaneiddiakjgdaaGreatDoorUAl
import Derived.Test.YtaneiddiakjgdaaGreatDoorUAs
import Derived.Test.YtaneiddiakjgdaaGreatDoorUAp
import Derived.Test.YtaneiddiakjgdaaGreatDoorUAi
import Derived.Test.YtaneiddiakjgdaaGreatDoorUAk
set_option linter.unusedSectionVars false
set_option linter.unusedVariables false
set_option linter.unusedSimpArgs false
set_option maxHeartbeats 1000000
namespace Go.Ab
open Go Go.Proofs
def zuc (a0 : Int) : (List (List UInt8)) :=
 (zof (zmc a0 ([[], [99, 97, 110, 32, 112, 105, 108, 108, 97, 114, 32, 115, 112, 97, 114], [99, 111, 110, 101, 32, 112, 105, 108, 108, 97, 114, 32, 115, 112, 97, 114], [112, 105, 108, 108, 97, 114, 32, 115, 112, 97, 114], [112, 105, 108, 108, 97, 114, 32, 115, 112, 97, 114], [112, 105, 108, 108, 97, 114, 32, 115, 112, 97, 114], [112, 105, 108, 108, 97, 114, 32, 115, 112, 97, 114], [112, 105, 108, 108, 97, 114, 32, 115, 112, 97, 114], [115, 112, 104, 101, 114, 101, 32, 112, 105, 108, 108, 97, 114, 32, 115, 112, 97, 114], [99, 97, 110, 32, 99, 111, 110, 101, 32, 112, 105, 108, 108, 97, 114, 32, 115, 112, 97, 114, 32, 115, 112, 104, 101, 114, 101]] : List (List UInt8))))
namespace N199
theorem DD : DOk Tryz.prog (Go.Ab.DD [(232, dP D_zmc), (234, dP D_zof)]) := DD_cons D_zmc_ok.e <| DD_cons D_zof_ok.e <| DD_nil _
theorem dn : type_of% (And.intro @D_zmc.eq_1 <| @D_zof.eq_1) := by and_intros <;> intros <;> rfl
theorem o0 {p : Prop} (h : p := by (first | (and_intros <;> first | exact pick_all (P := fun y => y.length ≤ 1048576) _ _ (by simp) (by simp) | exact pick_all (P := fun y => ∀ x ∈ y, x.toNat < 128) _ _ (by simp) (by simp))); first | done | fail) : p := h
theorem lx {p : Prop} (h : p := by (exact lxx); first | done | fail) : p := h
theorem den (a0 : Int)  : Den Tryz.prog 199 [.int .i64 a0] (ownL 9 1 eS (zuc a0)) := by
 generalize hR : zuc a0 = r
 unfold zuc at hR
 refine di Tryz.func199 Tryz.ntmps199 Tryz.results199 ?_
 intro c hL hc hk
 clear hL
 simp only [pars, Nat.zero_add]
 iterate 2 refine rS ?_
 refine AWP.ret ?_
 subst hR
 exact es
end N199
def D_zuc : DF
 | [x0] => some (ownL 9 1 eS (zuc (rdI x0)), false, [wI .i64 x0])
 | _ => none
def Dz_zuc : DF
 | [x0] => some (ownL 9 1 eS (zuc (rdI x0)), true, [wI .i64 x0])
 | _ => none
theorem D_zuc_ok : OkD Tryz.prog 199 D_zuc := by unfold D_zuc; exact dk N199.den
theorem Dz_zuc_ok : OkD Tryz.prog 199 Dz_zuc := by unfold Dz_zuc; exact dk N199.den
end Go.Ab

namespace Go.Ab
open Go Go.Proofs
def zie (a0 : Int) : (List UInt8) :=
 (zmc a0 ([[], [99, 97, 110], [99, 111, 110, 101], [117, 112], [98, 97, 115, 101], [100, 111, 119, 110], [112, 111, 105, 110, 116], [98, 97, 108, 108, 115], [98, 97, 108, 108], [99, 114, 111, 115, 115]] : List (List UInt8)))
namespace N200
theorem DD : DOk Tryz.prog (Go.Ab.DD [(232, dP D_zmc)]) := DD_cons D_zmc_ok.e <| DD_nil _
theorem dn : type_of% (@D_zmc.eq_1) := by and_intros <;> intros <;> rfl
theorem lx {p : Prop} (h : p := by (exact lxx); first | done | fail) : p := h
theorem den (a0 : Int)  : Den Tryz.prog 200 [.int .i64 a0] (.str (zie a0)) := by
 generalize hR : zie a0 = r
 unfold zie at hR
 refine di Tryz.func200 Tryz.ntmps200 Tryz.results200 ?_
 intro c hL hc hk
 clear hL
 simp only [pars, Nat.zero_add]
 iterate 2 refine rS ?_
 refine AWP.ret ?_
 subst hR
 exact es
end N200
def D_zie : DF
 | [x0] => some (.str (zie (rdI x0)), false, [wI .i64 x0])
 | _ => none
theorem D_zie_ok : OkD Tryz.prog 200 D_zie := by unfold D_zie; exact dk N200.den
end Go.Ab

namespace Go.Ab
open Go Go.Proofs
def zje (a0 : Mark) : Bool :=
 (bif (a0.Kind == 0 && (a0.Colors == [] && (a0.Shape == [] && a0.Topmark == []))) then true else ((((zfe a0.Kind) && (a0.Colors == (zhe a0.Kind))) && (zud (zuc a0.Kind) a0.Shape)) && ((a0.Topmark == []) || (a0.Topmark == (zie a0.Kind)))))
namespace N162
theorem DD : DOk Tryz.prog (Go.Ab.DD [(196, dP D_zfe), (197, dP D_zhe), (198, dP D_zud), (199, dP D_zuc), (200, dP D_zie)]) := DD_cons D_zfe_ok.e <| DD_cons D_zhe_ok.e <| DD_cons D_zud_ok.e <| DD_cons D_zuc_ok.e <| DD_cons D_zie_ok.e <| DD_nil _
theorem DZ : DOk Tryz.prog (Go.Ab.DD [(196, dP D_zfe), (197, dP D_zhe), (198, dP D_zud), (199, dP Dz_zuc), (200, dP D_zie)]) := DD_cons D_zfe_ok.e <| DD_cons D_zhe_ok.e <| DD_cons D_zud_ok.e <| DD_cons Dz_zuc_ok.e <| DD_cons D_zie_ok.e <| DD_nil _
theorem dn : type_of% (And.intro @D_zfe.eq_1 <| And.intro @D_zhe.eq_1 <| And.intro @D_zud.eq_1 <| And.intro @D_zuc.eq_1 <| And.intro @D_zie.eq_1 <| @Dz_zuc.eq_1) := by and_intros <;> intros <;> rfl
theorem den (a0 : Mark) (hb0 : bdMark a0) : Den Tryz.prog 162 [.agg (eMark a0)] (.bool (zje a0)) := by
 generalize hR : zje a0 = r
 unfold zje at hR
 refine di Tryz.func162 Tryz.ntmps162 Tryz.results162 ?_
 intro c hL hc hk
 obtain ⟨hL0, _⟩ := hL
 have hw0 : bwMark a0 := Mark_lens a0 hL0
 clear hL0
 simp only [pars, Nat.zero_add]
 iterate 2 refine rS ?_
 refine AWP.cond rfl (fun hb => ?_) (fun hb => ?_)
 ·replace hR := ct hR
  refine rS ?_
  refine AWP.ret ?_
  subst hR
  exact es
 ·replace hR := cf hR
  refine rZ 32 ?_
  refine AWP.ret ?_
  subst hR
  exact es
end N162
def D_zje : DF
 | [x0] => some (.bool (zje (rdG dMark x0)), false, [wG eMark dMark x0, bdMark (rdG dMark x0)])
 | _ => none
theorem D_zje_ok : OkD Tryz.prog 162 D_zje := by unfold D_zje; exact dk N162.den
end Go.Ab

namespace Go.Ab
open Go Go.Proofs
def znc_b1 (a0 : (List Int)) (a1 : (List Int)) (i1 : Nat) (s1 : Unit) : Except (Bool) (Unit) :=
 (bif ((a0.getD i1 default) != (a1.getD i1 default)) then .error false else .ok ())
def znc (a0 : (List Int)) (a1 : (List Int)) : Bool :=
 (bif ((a0.length : Int) != (a1.length : Int)) then false else (match loopR (znc_b1 a0 a1) (a0.length - 0) 0 () with | .error e => e | .ok s1 => true))
namespace N219
theorem DD : DOk Tryz.prog (Go.Ab.DD []) := DD_nil _
theorem den (a0 : (List Int)) (a1 : (List Int))  : Den Tryz.prog 219 [encL 1 eIi64 a0, encL 1 eIi64 a1] (.bool (znc a0 a1)) := by
 generalize hR : znc a0 a1 = r
 unfold znc at hR
 refine di Tryz.func219 Tryz.ntmps219 Tryz.results219 ?_
 intro c hL hc hk
 obtain ⟨hL0, hL1, _⟩ := hL
 have hw0 : a0.length < 9223372036854775808 := Nat.lt_succ_of_le (lens_encL hL0).1
 have hw1 : a1.length < 9223372036854775808 := Nat.lt_succ_of_le (lens_encL hL1).1
 clear hL0 hL1
 simp only [pars, Nat.zero_add]
 iterate 2 refine rS ?_
 refine AWP.cond rfl (fun hb => ?_) (fun hb => ?_)
 ·replace hR := ct hR
  refine rS ?_
  refine AWP.ret ?_
  subst hR
  exact es
 ·replace hR := cf hR
  refine rS ?_
  refine AWP.block ?_
  generalize hz1 : loopR (znc_b1 a0 a1) (a0.length - 0) 0 () = z1 at hR
  refine AWP.range (znc_b1 a0 a1) (fun i1 s1 => ⟨[(0, encL 1 eIi64 a0), (1, encL 1 eIi64 a1), (12, .int .i64 (a0.length : Int)), (13, .int .i64 (i1 : Int))], []⟩) (fun i1 s1 => True) (a0.length) 0 () [] hz1 ot wt sm ?_
  clear hz1
  intro i1 s1 hi1 hW1 hz1
  refine rS ?_
  refine AWP.seq ?_
  refine AWP.cond rfl (fun hb => ?_) (fun hb => ?_)
  ·have hlt1 : i1 < a0.length := ot
   rw [loopR_lt hlt1] at hz1; simp only [znc_b1] at hz1
   refine rS ?_
   refine rD 8 ?_
   refine AWP.cond rfl (fun hb => ?_) (fun hb => ?_)
   ·simp only [hb, cond_true] at hz1
    refine rS ?_
    refine AWP.ret ?_
    subst hz1
    dsimp only at hR
    subst hR
    exact es
   ·simp only [hb, cond_false] at hz1
    refine rS ?_
    exact ⟨_, [], hlt1, wt, hz1, sm⟩
  ·obtain rfl : i1 = a0.length := ot
   rw [loopR_ge (Nat.le_refl _)] at hz1; subst hz1; dsimp only at hR
   refine AWP.exit ?_; refine exitTo_here ?_
   refine rS ?_
   refine AWP.ret ?_
   subst hR
   exact es
end N219
def D_znc : DF
 | [x0, x1] => some (.bool (znc (rdL dIi64 x0) (rdL dIi64 x1)), false, [wL 1 eIi64 dIi64 x0, wL 1 eIi64 dIi64 x1])
 | _ => none
theorem D_znc_ok : OkD Tryz.prog 219 D_znc := by unfold D_znc; exact dk N219.den
end Go.Ab

namespace Go.Ab
open Go Go.Proofs
theorem same_int64_dec (a b : List Int) : znc a b = decide (a = b) := by
 unfold znc
 by_cases hl : a.length = b.length
 ·have h1 : ((a.length : Int) != (b.length : Int)) = false := by simp [hl]
  rw [h1, cond_false, loopR_any (b := znc_b1 a b) (fun j => !decide (a.getD j default = b.getD j default)) false (fun j u _ _ => by simp only [znc_b1, ned])]
  simp only [Nat.sub_zero, Nat.zero_add]
  rw [any_ne a b hl]
  by_cases h : a = b <;> simp [h]
 ·have h1 : ((a.length : Int) != (b.length : Int)) = true := by simp; omega
  have h2 : ¬ a = b := fun e => hl (by rw [e])
  rw [h1, cond_true, decide_eq_false h2]
end Go.Ab

namespace Go.Ab
open Go Go.Proofs
def zcf (a0 : Int) : Bool :=
 (zb a0 1 9999)
namespace N158
theorem DD : DOk Tryz.prog (Go.Ab.DD [(139, dP D_zb)]) := DD_cons D_zb_ok.e <| DD_nil _
theorem dn : type_of% (@D_zb.eq_1) := by and_intros <;> intros <;> rfl
theorem ol : type_of% (@zb.eq_1) := @zb.eq_1
theorem den (a0 : Int)  : Den Tryz.prog 158 [.int .i64 a0] (.bool (zcf a0)) := by
 generalize hR : zcf a0 = r
 unfold zcf at hR
 refine di Tryz.func158 Tryz.ntmps158 Tryz.results158 ?_
 intro c hL hc hk
 clear hL
 simp only [pars, Nat.zero_add]
 iterate 2 refine rS ?_
 refine AWP.ret ?_
 subst hR
 exact es
end N158
def D_zcf : DF
 | [x0] => some (.bool (zcf (rdI x0)), false, [wI .i64 x0])
 | _ => none
theorem D_zcf_ok : OkD Tryz.prog 158 D_zcf := by unfold D_zcf; exact dk N158.den
end Go.Ab

namespace Go.Ab
open Go Go.Proofs
def zdf (a0 : Point) : Bool :=
 ((zb a0.X 0 200000) && (zb a0.Y 0 200000))
namespace N160
theorem DD : DOk Tryz.prog (Go.Ab.DD [(139, dP D_zb)]) := DD_cons D_zb_ok.e <| DD_nil _
theorem dn : type_of% (@D_zb.eq_1) := by and_intros <;> intros <;> rfl
theorem ol : type_of% (@zb.eq_1) := @zb.eq_1
theorem den (a0 : Point)  : Den Tryz.prog 160 [.agg (ePoint a0)] (.bool (zdf a0)) := by
 generalize hR : zdf a0 = r
 unfold zdf at hR
 refine di Tryz.func160 Tryz.ntmps160 Tryz.results160 ?_
 intro c hL hc hk
 clear hL
 simp only [pars, Nat.zero_add]
 iterate 2 refine rS ?_
 refine AWP.ret ?_
 subst hR
 exact es
end N160
def D_zdf : DF
 | [x0] => some (.bool (zdf (rdG dPoint x0)), false, [wG ePoint dPoint x0])
 | _ => none
theorem D_zdf_ok : OkD Tryz.prog 160 D_zdf := by unfold D_zdf; exact dk N160.den
end Go.Ab

namespace Go.Ab
open Go Go.Proofs
def zef (a0 : Int) : Bool :=
 (zb a0 0 3000)
namespace N161
theorem DD : DOk Tryz.prog (Go.Ab.DD [(139, dP D_zb)]) := DD_cons D_zb_ok.e <| DD_nil _
theorem dn : type_of% (@D_zb.eq_1) := by and_intros <;> intros <;> rfl
theorem ol : type_of% (@zb.eq_1) := @zb.eq_1
theorem den (a0 : Int)  : Den Tryz.prog 161 [.int .i64 a0] (.bool (zef a0)) := by
 generalize hR : zef a0 = r
 unfold zef at hR
 refine di Tryz.func161 Tryz.ntmps161 Tryz.results161 ?_
 intro c hL hc hk
 clear hL
 simp only [pars, Nat.zero_add]
 iterate 2 refine rS ?_
 refine AWP.ret ?_
 subst hR
 exact es
end N161
def D_zef : DF
 | [x0] => some (.bool (zef (rdI x0)), false, [wI .i64 x0])
 | _ => none
theorem D_zef_ok : OkD Tryz.prog 161 D_zef := by unfold D_zef; exact dk N161.den
end Go.Ab

namespace Go.Ab
open Go Go.Proofs
def zff (a0 : Int) : Bool :=
 (zb a0 1 100000000)
namespace N202
theorem DD : DOk Tryz.prog (Go.Ab.DD [(139, dP D_zb)]) := DD_cons D_zb_ok.e <| DD_nil _
theorem dn : type_of% (@D_zb.eq_1) := by and_intros <;> intros <;> rfl
theorem ol : type_of% (@zb.eq_1) := @zb.eq_1
theorem den (a0 : Int)  : Den Tryz.prog 202 [.int .i64 a0] (.bool (zff a0)) := by
 generalize hR : zff a0 = r
 unfold zff at hR
 refine di Tryz.func202 Tryz.ntmps202 Tryz.results202 ?_
 intro c hL hc hk
 clear hL
 simp only [pars, Nat.zero_add]
 iterate 2 refine rS ?_
 refine AWP.ret ?_
 subst hR
 exact es
end N202
def D_zff : DF
 | [x0] => some (.bool (zff (rdI x0)), false, [wI .i64 x0])
 | _ => none
theorem D_zff_ok : OkD Tryz.prog 202 D_zff := by unfold D_zff; exact dk N202.den
end Go.Ab

namespace Go.Ab
open Go Go.Proofs
def zgd (a0 : Character) (a1 : Character) : Bool :=
 (((((a0.Kind == a1.Kind) && (znc a0.Group a1.Group)) && (a0.Letter == a1.Letter)) && (a0.Colors == a1.Colors)) && (a0.Period == a1.Period))
namespace N185
theorem DD : DOk Tryz.prog (Go.Ab.DD [(219, dP D_znc)]) := DD_cons D_znc_ok.e <| DD_nil _
theorem dn : type_of% (@D_znc.eq_1) := by and_intros <;> intros <;> rfl
theorem den (a0 : Character) (a1 : Character)  : Den Tryz.prog 185 [.agg (eCharacter a0), .agg (eCharacter a1)] (.bool (zgd a0 a1)) := by
 generalize hR : zgd a0 a1 = r
 unfold zgd at hR
 refine di Tryz.func185 Tryz.ntmps185 Tryz.results185 ?_
 intro c hL hc hk
 obtain ⟨hL0, hL1, _⟩ := hL
 have hw0 : bwCharacter a0 := Character_lens a0 hL0
 have hw1 : bwCharacter a1 := Character_lens a1 hL1
 clear hL0 hL1
 simp only [pars, Nat.zero_add]
 iterate 2 refine rS ?_
 refine AWP.ret ?_
 subst hR
 exact es
end N185
def D_zgd : DF
 | [x0, x1] => some (.bool (zgd (rdG dCharacter x0) (rdG dCharacter x1)), false, [wG eCharacter dCharacter x0, wG eCharacter dCharacter x1])
 | _ => none
theorem D_zgd_ok : OkD Tryz.prog 185 D_zgd := by unfold D_zgd; exact dk N185.den
end Go.Ab

namespace Go.Ab
open Go Go.Proofs
def zse (a0 : Aid) : Bool :=
 (((zgd a0.Light ({ Kind := 0, Group := [], Letter := [], Colors := [], Period := 0 : Character })) && ((a0.Sectors.length : Int) == 0)) && (a0.Intensity == 0))
namespace N164
theorem DD : DOk Tryz.prog (Go.Ab.DD [(185, dP D_zgd)]) := DD_cons D_zgd_ok.e <| DD_nil _
theorem dn : type_of% (@D_zgd.eq_1) := by and_intros <;> intros <;> rfl
theorem den (a0 : Aid)  : Den Tryz.prog 164 [.agg (eAid a0)] (.bool (zse a0)) := by
 generalize hR : zse a0 = r
 unfold zse at hR
 refine di Tryz.func164 Tryz.ntmps164 Tryz.results164 ?_
 intro c hL hc hk
 obtain ⟨hL0, _⟩ := hL
 have hw0 : bwAid a0 := Aid_lens a0 hL0
 clear hL0
 simp only [pars, Nat.zero_add]
 iterate 2 refine rS ?_
 refine AWP.ret ?_
 subst hR
 exact es
end N164
def D_zse : DF
 | [x0] => some (.bool (zse (rdG dAid x0)), false, [wG eAid dAid x0])
 | _ => none
theorem D_zse_ok : OkD Tryz.prog 164 D_zse := by unfold D_zse; exact dk N164.den
end Go.Ab

namespace Go.Ab
open Go Go.Proofs
def zj_b1 (a0 : (List Aid)) (a1 : Int) (s1 : Int) : Except (Sum ((Int × Bool)) (Int)) (Int) :=
 (bif (decide (s1 < (a0.length : Int)) && decide (((a0.getD ((s1).toNat) default).Number) < a1)) then .ok (IntKind.wrap .i64 (s1 + 1)) else .error (.inr s1))
def zj (a0 : (List Aid)) (a1 : Int) : (Int × Bool) :=
 (match loopW (zj_b1 a0 a1) ((a0.length - ((0 : Int)).toNat) + 1) 0 with | .error (.inl e) => e | .error (.inr s1) => (s1, (decide (s1 < (a0.length : Int)) && (((a0.getD ((s1).toNat) default).Number) == a1))) | .ok _ => default)
namespace N94
theorem DD : DOk Tryz.prog (Go.Ab.DD []) := DD_nil _
theorem den (a0 : (List Aid)) (a1 : Int)  : Den Tryz.prog 94 [encL 16 eAid a0, .int .i64 a1] (.tup [.int .i64 ((zj a0 a1).1), .bool ((zj a0 a1).2)]) := by
 generalize hR : zj a0 a1 = r
 unfold zj at hR
 refine di Tryz.func94 Tryz.ntmps94 Tryz.results94 ?_
 intro c hL hc hk
 obtain ⟨hL0, hL1, _⟩ := hL
 have hw0 : a0.length < 9223372036854775808 := Nat.lt_succ_of_le (lens_encL hL0).1
 have hw1 : ∀ v ∈ a0, bwAid v := fun v hv => Aid_lens v ((lens_encL hL0).2 v hv)
 clear hL0 hL1
 simp only [pars, Nat.zero_add]
 iterate 2 refine rS ?_
 refine AWP.seq ?_
 refine AWP.block ?_
 generalize hz1 : loopW (zj_b1 a0 a1) ((a0.length - ((0 : Int)).toNat) + 1) 0 = z1 at hR
 refine AWP.whileW (zj_b1 a0 a1) (fun s1 => ⟨[(0, encL 16 eAid a0), (1, .int .i64 a1), (6, .int .i64 s1)], []⟩) (fun s1 => 0 ≤ s1 ∧ s1 ≤ a0.length) (fun s1 => a0.length - (s1).toNat) ((a0.length - ((0 : Int)).toNat) + 1) 0 [] hz1 m0 wt sm ?_
 clear hz1
 intro s1 k1 hW1 hm1 hz1
 simp only [zj_b1] at hz1
 refine rS ?_
 refine AWP.cond rfl (fun hb => ?_) (fun hb => ?_)
 ·simp only [hb, cond_true] at hz1
  refine rS ?_
  exact ⟨_, [], ms, wt, hz1, sm⟩
 ·simp only [hb, cond_false] at hz1
  refine AWP.exit ?_
  refine exitTo_here ?_
  subst hz1; dsimp only at hR
  refine AWP.seq ?_
  refine AWP.regP mixed G_ok DD hc 15 [0, 1, 2, 3, 4, 5, 6, 7, 8, 9, 10, 11, 12, 13] (.alt 14 [] [6, 7, 8, 9, 10, 11, 12, 13] .leaf .stop) (by kernel_rfl) (by kernel_rfl) (by kernel_rfl) (fun K hK => ?_); simp only [rootP, runN, runP, recheck, nthO, ea, absV, absVL, cput, gv, sv, dn, reduceCtorEq, reduceIte, Nat.reduceBEq, Nat.reduceAdd, Nat.reduceEqDiff, Nat.reduceLT, Nat.reduceLeDiff, Nat.reduceMul, Nat.reduceSub, BEq.rfl, beq_self_eq_true, Int.reduceToNat]
  repeat' apply And.intro
  all_goals first | refine hK _ ?_ | exact ot
  all_goals clear hK K
  refine AWP.ret ?_
  subst hR
  exact es
end N94
def D_zj : DF
 | [x0, x1] => some (.tup [.int .i64 ((zj (rdL dAid x0) (rdI x1)).1), .bool ((zj (rdL dAid x0) (rdI x1)).2)], false, [wL 16 eAid dAid x0, wI .i64 x1])
 | _ => none
theorem D_zj_ok : OkD Tryz.prog 94 D_zj := by unfold D_zj; exact dk N94.den
end Go.Ab

namespace Go.Ab
open Go Go.Proofs
def upto (l : List Aid) (n : Int) : Nat := (l.takeWhile (fun x => decide (x.Number < n))).length
theorem upto_le (l : List Aid) (n : Int) : upto l n ≤ l.length := by unfold upto; exact (List.takeWhile_prefix _).length_le
theorem up_loop {ρ : Type} (l : List Aid) (n : Int) (hl : l.length < 9223372036854775808) (b : Int → Except (Sum ρ Int) Int)
  (hb : ∀ s, b s = bif (decide (s < (l.length : Int)) && decide ((l.getD s.toNat default).Number < n)) then .ok (IntKind.wrap .i64 (s + 1)) else .error (.inr s)) :
  ∀ (r p : List Aid) (k : Nat), l = p ++ r → r.length < k → loopW b k (p.length : Int) = .error (.inr ((p.length + upto r n : Nat) : Int))
 | _, _, 0, _, h => absurd h (Nat.not_lt_zero _)
 | [], p, k + 1, e, _ => by
  subst e
  simp only [loopW, hb, List.append_nil, Int.lt_irrefl, decide_false, Bool.false_and, cond_false]
  simp [upto]
 | x :: r, p, k + 1, e, hk => by
  have hg : l.getD ((p.length : Int)).toNat default = x := by subst e; simp
  have hlt : decide ((p.length : Int) < (l.length : Int)) = true := by subst e; simp; omega
  simp only [loopW, hb, hg, hlt, Bool.true_and]
  cases hx : decide (x.Number < n) with
  | false => simp [upto, List.takeWhile_cons, hx]
  | true =>
   have hw : IntKind.wrap .i64 ((p.length : Int) + 1) = ((p ++ [x]).length : Int) := by
    have : p.length < l.length := by subst e; simp
    have e2 : (p ++ [x]).length = p.length + 1 := by simp
    rw [IntKind.wrap_i64, e2]; omega
   simp only [cond_true, hw]
   rw [up_loop l n hl b hb r (p ++ [x]) k (by simp [e]) (by simp at hk; omega)]
   have e3 : (p ++ [x]).length + upto r n = p.length + upto (x :: r) n := by
    simp [upto, List.takeWhile_cons, hx]; omega
   rw [e3]
theorem aidOf_eq (l : List Aid) (n : Int) (hl : l.length < 9223372036854775808) : zj l n = ((upto l n : Int), decide (upto l n < l.length) && ((l.getD (upto l n) default).Number == n)) := by
 unfold zj
 have := up_loop l n hl (zj_b1 l n) (fun s => rfl) l [] (l.length - (0 : Int).toNat + 1) rfl (by simp)
 simp only [List.length_nil, Nat.zero_add] at this
 have e0 : ((0 : Nat) : Int) = 0 := rfl
 simp only [e0] at this
 rw [this]
 simp
theorem zj_ix (l : List Aid) (n : Int) (hl : l.length < 9223372036854775808) : 0 ≤ (zj l n).1 ∧ (zj l n).1 ≤ l.length ∧ ((zj l n).2 = true → (zj l n).1 < l.length) := by
 rw [aidOf_eq l n hl]
 have := upto_le l n
 refine ⟨by simp only; omega, by simp only; omega, fun h => ?_⟩
 simp only [Bool.and_eq_true, decide_eq_true_eq] at h
 simp only; omega
end Go.Ab

namespace Go.Ab
open Go Go.Proofs
def zgf (a0 : (List Int)) : (List Int) :=
 (List.replicate 0 (default : Int)) ++ a0
namespace N144
theorem DD : DOk Tryz.prog (Go.Ab.DD []) := DD_nil _
theorem den (a0 : (List Int)) (hb0 : a0.length < 1099511627776) : Den Tryz.prog 144 [encL 1 eIi64 a0] (ownL 2 1 eIi64 (zgf a0)) := by
 generalize hR : zgf a0 = r
 unfold zgf at hR
 refine di Tryz.func144 Tryz.ntmps144 Tryz.results144 ?_
 intro c hL hc hk
 obtain ⟨hL0, _⟩ := hL
 have hw0 : a0.length < 9223372036854775808 := Nat.lt_succ_of_le (lens_encL hL0).1
 clear hL0
 simp only [pars, Nat.zero_add]
 iterate 2 refine rS ?_
 refine AWP.ret ?_
 subst hR
 exact es
end N144
def D_zgf : DF
 | [x0] => some (ownL 2 1 eIi64 (zgf (rdL dIi64 x0)), false, [wL 1 eIi64 dIi64 x0, (rdL dIi64 x0).length < 1099511627776])
 | _ => none
theorem D_zgf_ok : OkD Tryz.prog 144 D_zgf := by unfold D_zgf; exact dk N144.den
end Go.Ab

namespace Go.Ab
open Go Go.Proofs
def zhf (a0 : (List Sector)) : (List Sector) :=
 (List.replicate 0 (default : Sector)) ++ a0
namespace N145
theorem DD : DOk Tryz.prog (Go.Ab.DD []) := DD_nil _
theorem den (a0 : (List Sector)) (hb0 : a0.length < 1099511627776) (hb1 : ∀ v ∈ a0, bdSector v) : Den Tryz.prog 145 [encL 3 eSector a0] (ownL 180 3 eSector (zhf a0)) := by
 generalize hR : zhf a0 = r
 unfold zhf at hR
 refine di Tryz.func145 Tryz.ntmps145 Tryz.results145 ?_
 intro c hL hc hk
 obtain ⟨hL0, _⟩ := hL
 have hw0 : a0.length < 9223372036854775808 := Nat.lt_succ_of_le (lens_encL hL0).1
 have hw1 : ∀ v ∈ a0, bwSector v := fun v hv => Sector_lens v ((lens_encL hL0).2 v hv)
 clear hL0
 simp only [pars, Nat.zero_add]
 iterate 2 refine rS ?_
 refine AWP.ret ?_
 subst hR
 exact es
end N145
def D_zhf : DF
 | [x0] => some (ownL 180 3 eSector (zhf (rdL dSector x0)), false, [wL 3 eSector dSector x0, (rdL dSector x0).length < 1099511627776, ∀ v ∈ (rdL dSector x0), bdSector v])
 | _ => none
theorem D_zhf_ok : OkD Tryz.prog 145 D_zhf := by unfold D_zhf; exact dk N145.den
end Go.Ab

namespace Go.Ab
open Go Go.Proofs
def zec (a0 : Aid) : Aid :=
 { Number := a0.Number, Name := a0.Name, At := a0.At, Height := a0.Height, Mark := a0.Mark, Light := { Kind := a0.Light.Kind, Group := (zgf a0.Light.Group), Letter := a0.Light.Letter, Colors := a0.Light.Colors, Period := a0.Light.Period : Character }, Sectors := (zhf a0.Sectors), Intensity := a0.Intensity : Aid }
namespace N81
theorem DD : DOk Tryz.prog (Go.Ab.DD [(144, dP D_zgf), (145, dP D_zhf)]) := DD_cons D_zgf_ok.e <| DD_cons D_zhf_ok.e <| DD_nil _
theorem dn : type_of% (And.intro @D_zgf.eq_1 <| @D_zhf.eq_1) := by and_intros <;> intros <;> rfl
theorem den (a0 : Aid) (hb0 : bdAid a0) : Den Tryz.prog 81 [.agg (eAid a0)] (.agg (eAidO (zec a0))) := by
 generalize hR : zec a0 = r
 unfold zec at hR
 refine di Tryz.func81 Tryz.ntmps81 Tryz.results81 ?_
 intro c hL hc hk
 obtain ⟨hL0, _⟩ := hL
 have hw0 : bwAid a0 := Aid_lens a0 hL0
 clear hL0
 simp only [pars, Nat.zero_add]
 refine rS ?_
 refine AWP.seq ?_
 refine AWP.regP mixed G_ok DD hc 9 [0, 1, 2, 4, 5] (.alt 3 [7, 8] [4, 5, 7, 8] (.alt 6 [] [7, 8] .leaf .stop) .stop) (by kernel_rfl) (by kernel_rfl) (by kernel_rfl) (fun K hK => ?_); simp only [rootP, runN, runP, recheck, nthO, ea, absV, absVL, cput, gv, sv, dn, reduceCtorEq, reduceIte, Nat.reduceBEq, Nat.reduceAdd, Nat.reduceEqDiff, Nat.reduceLT, Nat.reduceLeDiff, Nat.reduceMul, Nat.reduceSub, BEq.rfl, beq_self_eq_true, Int.reduceToNat]
 repeat' apply And.intro
 all_goals first | refine hK _ ?_ | exact ot
 all_goals clear hK K
 refine rS ?_
 refine AWP.ret ?_
 subst hR
 exact es
end N81
def D_zec : DF
 | [x0] => some (.agg (eAidO (zec (rdG dAid x0))), false, [wG eAid dAid x0, bdAid (rdG dAid x0)])
 | _ => none
theorem D_zec_ok : OkD Tryz.prog 81 D_zec := by unfold D_zec; exact dk N81.den
end Go.Ab

namespace Go.Ab
open Go Go.Proofs
def zvc_b1 (a0 : (List Aid)) (i1 : Nat) (s1 : List Aid) : Except ((List Aid)) (List Aid) :=
 .ok (s1 ++ [zec (a0.getD i1 default)])
def zvc (a0 : (List Aid)) : (List Aid) :=
 (match loopR (zvc_b1 a0) (a0.length - 0) 0 (List.replicate 0 (default : Aid)) with | .error e => e | .ok s1 => s1)
namespace N96
theorem DD : DOk Tryz.prog (Go.Ab.DD [(81, dP D_zec)]) := DD_cons D_zec_ok.e <| DD_nil _
theorem dn : type_of% (@D_zec.eq_1) := by and_intros <;> intros <;> rfl
theorem den (a0 : (List Aid)) (hb0 : a0.length < 1099511627776) (hb1 : ∀ v ∈ a0, bdAid v) (hp0 : a0.length ≤ 1073741824) : Den Tryz.prog 96 [encL 16 eAid a0] (ownL 63 16 eAidO (zvc a0)) := by
 generalize hR : zvc a0 = r
 unfold zvc at hR
 refine di Tryz.func96 Tryz.ntmps96 Tryz.results96 ?_
 intro c hL hc hk
 obtain ⟨hL0, _⟩ := hL
 have hw0 : a0.length < 9223372036854775808 := Nat.lt_succ_of_le (lens_encL hL0).1
 have hw1 : ∀ v ∈ a0, bwAid v := fun v hv => Aid_lens v ((lens_encL hL0).2 v hv)
 clear hL0
 simp only [pars, Nat.zero_add]
 iterate 3 refine rS ?_
 refine AWP.block ?_
 generalize hz1 : loopR (zvc_b1 a0) (a0.length - 0) 0 (List.replicate 0 (default : Aid)) = z1 at hR
 refine AWP.range (zvc_b1 a0) (fun i1 s1 => ⟨[(3, .ref 0 16 0 s1.length), (10, encL 16 eAid a0), (11, .int .i64 (a0.length : Int)), (12, .int .i64 (i1 : Int))], [.arr 63 16 s1.length (fun j => eAidO (s1.getD j default))]⟩) (fun i1 s1 => s1.length ≤ (List.replicate 0 (default : Aid)).length + 1 * i1) (a0.length) 0 (List.replicate 0 (default : Aid)) [0] hz1 ot wt sm ?_
 clear hz1
 intro i1 s1 hi1 hW1 hz1
 refine rS ?_
 refine AWP.seq ?_
 refine AWP.cond rfl (fun hb => ?_) (fun hb => ?_)
 ·have hlt1 : i1 < a0.length := ot
  rw [loopR_lt hlt1] at hz1; simp only [zvc_b1] at hz1
  iterate 3 refine rS ?_
  exact ⟨_, [5], hlt1, wt, hz1, sm⟩
 ·obtain rfl : i1 = a0.length := ot
  rw [loopR_ge (Nat.le_refl _)] at hz1; subst hz1; dsimp only at hR
  refine AWP.exit ?_; refine exitTo_here ?_
  refine rS ?_
  refine AWP.ret ?_
  subst hR
  exact es
end N96
def D_zvc : DF
 | [x0] => some (ownL 63 16 eAidO (zvc (rdL dAid x0)), false, [wL 16 eAid dAid x0, (rdL dAid x0).length < 1099511627776, ∀ v ∈ (rdL dAid x0), bdAid v, (rdL dAid x0).length ≤ 1073741824])
 | _ => none
theorem D_zvc_ok : OkD Tryz.prog 96 D_zvc := by unfold D_zvc; exact dk N96.den
end Go.Ab
