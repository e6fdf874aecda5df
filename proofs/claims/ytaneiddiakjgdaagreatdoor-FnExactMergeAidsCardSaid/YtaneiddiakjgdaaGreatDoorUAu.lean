/- A part of a proof: walks of functions and lemmas of our own. No conditions. -/
import Derived.Test.YtaneiddiakjgdaaGreatDoorUAl
import Derived.Test.YtaneiddiakjgdaaGreatDoorUAt
import Derived.Test.YtaneiddiakjgdaaGreatDoorUAr
import Derived.Test.YtaneiddiakjgdaaGreatDoorUAi
set_option linter.unusedSectionVars false
set_option linter.unusedVariables false
set_option linter.unusedSimpArgs false
set_option maxHeartbeats 1000000
namespace Go.Ab
open Go Go.Proofs
def zoc_b1 (a0 : (List Sector)) (a1 : (List Sector)) (i1 : Nat) (s1 : Unit) : Except (Bool) (Unit) :=
 (bif (!(((a0.getD i1 default).From) == ((a1.getD i1 default).From) && (((a0.getD i1 default).To) == ((a1.getD i1 default).To) && ((a0.getD i1 default).Color) == ((a1.getD i1 default).Color)))) then .error false else .ok ())
def zoc (a0 : (List Sector)) (a1 : (List Sector)) : Bool :=
 (bif ((a0.length : Int) != (a1.length : Int)) then false else (match loopR (zoc_b1 a0 a1) (a0.length - 0) 0 () with | .error e => e | .ok s1 => true))
namespace N186
theorem DD : DOk Tryz.prog (Go.Ab.DD []) := DD_nil _
theorem den (a0 : (List Sector)) (a1 : (List Sector))  : Den Tryz.prog 186 [encL 3 eSector a0, encL 3 eSector a1] (.bool (zoc a0 a1)) := by
 generalize hR : zoc a0 a1 = r
 unfold zoc at hR
 refine di Tryz.func186 Tryz.ntmps186 Tryz.results186 ?_
 intro c hL hc hk
 obtain ⟨hL0, hL1, _⟩ := hL
 have hw0 : a0.length < 9223372036854775808 := Nat.lt_succ_of_le (lens_encL hL0).1
 have hw1 : ∀ v ∈ a0, bwSector v := fun v hv => Sector_lens v ((lens_encL hL0).2 v hv)
 have hw2 : a1.length < 9223372036854775808 := Nat.lt_succ_of_le (lens_encL hL1).1
 have hw3 : ∀ v ∈ a1, bwSector v := fun v hv => Sector_lens v ((lens_encL hL1).2 v hv)
 clear hL0 hL1
 simp only [pars, Nat.zero_add]
 iterate 2 refine rS ?_
 refine AWP.cond rfl (fun hb => ?_) (fun hb => ?_)
 ·replace hR := ct hR
  refine rS ?_
  refine AWP.ret ?_
  subst hR
  exact es
 ·replace hR := cf hR
  refine rS ?_
  refine AWP.block ?_
  generalize hz1 : loopR (zoc_b1 a0 a1) (a0.length - 0) 0 () = z1 at hR
  refine AWP.range (zoc_b1 a0 a1) (fun i1 s1 => ⟨[(0, encL 3 eSector a0), (1, encL 3 eSector a1), (12, .int .i64 (a0.length : Int)), (13, .int .i64 (i1 : Int))], []⟩) (fun i1 s1 => True) (a0.length) 0 () [] hz1 ot wt sm ?_
  clear hz1
  intro i1 s1 hi1 hW1 hz1
  refine rS ?_
  refine AWP.seq ?_
  refine AWP.cond rfl (fun hb => ?_) (fun hb => ?_)
  ·have hlt1 : i1 < a0.length := ot
   rw [loopR_lt hlt1] at hz1; simp only [zoc_b1] at hz1
   refine rS ?_
   refine rD 8 ?_
   refine AWP.cond rfl (fun hb => ?_) (fun hb => ?_)
   ·simp only [hb, cond_true] at hz1
    refine rS ?_
    refine AWP.ret ?_
    subst hz1
    dsimp only at hR
    subst hR
    exact es
   ·simp only [hb, cond_false] at hz1
    refine rS ?_
    exact ⟨_, [], hlt1, wt, hz1, sm⟩
  ·obtain rfl : i1 = a0.length := ot
   rw [loopR_ge (Nat.le_refl _)] at hz1; subst hz1; dsimp only at hR
   refine AWP.exit ?_; refine exitTo_here ?_
   refine rS ?_
   refine AWP.ret ?_
   subst hR
   exact es
end N186
def D_zoc : DF
 | [x0, x1] => some (.bool (zoc (rdL dSector x0) (rdL dSector x1)), false, [wL 3 eSector dSector x0, wL 3 eSector dSector x1])
 | _ => none
theorem D_zoc_ok : OkD Tryz.prog 186 D_zoc := by unfold D_zoc; exact dk N186.den
end Go.Ab

namespace Go.Ab
open Go Go.Proofs
def zte (a0 : Aid) (a1 : Aid) : Bool :=
 ((((((((a0.Number == a1.Number) && (a0.Name == a1.Name)) && (a0.At.X == a1.At.X && a0.At.Y == a1.At.Y)) && (a0.Height == a1.Height)) && (a0.Mark.Kind == a1.Mark.Kind && (a0.Mark.Colors == a1.Mark.Colors && (a0.Mark.Shape == a1.Mark.Shape && a0.Mark.Topmark == a1.Mark.Topmark)))) && (zgd a0.Light a1.Light)) && (zoc a0.Sectors a1.Sectors)) && (a0.Intensity == a1.Intensity))
namespace N143
theorem DD : DOk Tryz.prog (Go.Ab.DD [(185, dP D_zgd), (186, dP D_zoc)]) := DD_cons D_zgd_ok.e <| DD_cons D_zoc_ok.e <| DD_nil _
theorem dn : type_of% (And.intro @D_zgd.eq_1 <| @D_zoc.eq_1) := by and_intros <;> intros <;> rfl
set_option maxHeartbeats 4000000 in
set_option maxRecDepth 20000 in
theorem den (a0 : Aid) (a1 : Aid)  : Den Tryz.prog 143 [.agg (eAid a0), .agg (eAid a1)] (.bool (zte a0 a1)) := by
 generalize hR : zte a0 a1 = r
 unfold zte at hR
 refine di Tryz.func143 Tryz.ntmps143 Tryz.results143 ?_
 intro c hL hc hk
 obtain ⟨hL0, hL1, _⟩ := hL
 have hw0 : bwAid a0 := Aid_lens a0 hL0
 have hw1 : bwAid a1 := Aid_lens a1 hL1
 clear hL0 hL1
 simp only [pars, Nat.zero_add]
 iterate 2 refine rS ?_
 refine AWP.ret ?_
 subst hR
 exact es
end N143
def D_zte : DF
 | [x0, x1] => some (.bool (zte (rdG dAid x0) (rdG dAid x1)), false, [wG eAid dAid x0, wG eAid dAid x1])
 | _ => none
theorem D_zte_ok : OkD Tryz.prog 143 D_zte := by unfold D_zte; exact dk N143.den
end Go.Ab

namespace Go.Ab
open Go Go.Proofs
def zf_b2 (a0 : (List (List Aid))) (s1 : Int × List Int) (i2 : Nat) (s2 : List Int) : Except (Sum ((List Int)) (List Int)) (List Int) :=
 (bif (zj (a0.getD i2 default) s1.1).2 then .error (.inr (s2 ++ ([s1.1] : List Int))) else .ok s2)
def zf_b1 (a0 : (List (List Aid))) (s1 : Int × List Int) : Except (Sum ((List Int)) (Int × List Int)) (Int × List Int) :=
 (bif decide (s1.1 ≤ 9999) then (match loopR (zf_b2 a0 s1) (a0.length - 0) 0 s1.2 with | .error (.inl e) => .error (.inl e) | .error (.inr s2) => .ok (IntKind.wrap .i64 (s1.1 + 1), s2) | .ok s2 => .ok (IntKind.wrap .i64 (s1.1 + 1), s2)) else .error (.inr (s1.1, s1.2)))
def zf (a0 : (List (List Aid))) : (List Int) :=
 (match loopW (zf_b1 a0) (((10000 - (1 : Int)).toNat) + 1) (1, ([] : List Int)) with | .error (.inl e) => e | .error (.inr s1) => s1.2 | .ok _ => default)
namespace N109
theorem DD : DOk Tryz.prog (Go.Ab.DD [(94, dP D_zj)]) := DD_cons D_zj_ok.e <| DD_nil _
theorem dn : type_of% (@D_zj.eq_1) := by and_intros <;> intros <;> rfl
theorem gr {p : Prop} (h : p := by (grind [zj_ix]); first | done | fail) : p := h
theorem den (a0 : (List (List Aid)))  : Den Tryz.prog 109 [encL 1 eLAid a0] (ownL 2 1 eIi64 (zf a0)) := by
 generalize hR : zf a0 = r
 unfold zf at hR
 refine di Tryz.func109 Tryz.ntmps109 Tryz.results109 ?_
 intro c hL hc hk
 obtain ⟨hL0, _⟩ := hL
 have hw0 : a0.length < 9223372036854775808 := Nat.lt_succ_of_le (lens_encL hL0).1
 have hw1 : ∀ v ∈ a0, bwLAid v := fun v hv => LAid_lens v ((lens_encL hL0).2 v hv)
 clear hL0
 simp only [pars, Nat.zero_add]
 iterate 3 refine rS ?_
 refine AWP.block ?_
 generalize hz1 : loopW (zf_b1 a0) (((10000 - (1 : Int)).toNat) + 1) (1, ([] : List Int)) = z1 at hR
 refine AWP.whileW (zf_b1 a0) (fun s1 => ⟨[(0, encL 1 eLAid a0), (3, .ref 0 1 0 s1.2.length), (4, .int .i64 s1.1)], [.arr 2 1 s1.2.length (fun j => eIi64 (s1.2.getD j default))]⟩) (fun s1 => 1 ≤ s1.1 ∧ s1.1 ≤ 10000 ∧ s1.2.length ≤ (s1.1).toNat) (fun s1 => (10000 - s1.1).toNat) (((10000 - (1 : Int)).toNat) + 1) (1, ([] : List Int)) [0] hz1 m0 wt sm ?_
 clear hz1
 intro s1 k1 hW1 hm1 hz1
 simp only [zf_b1] at hz1
 refine rS ?_
 refine AWP.cond rfl (fun hb => ?_) (fun hb => ?_)
 ·simp only [hb, cond_true] at hz1
  refine rS ?_
  refine AWP.block ?_
  generalize hz2 : loopR (zf_b2 a0 s1) (a0.length - 0) 0 s1.2 = z2 at hz1
  refine AWP.range (zf_b2 a0 s1) (fun i2 s2 => ⟨[(0, encL 1 eLAid a0), (3, .ref 0 1 0 s2.length), (4, .int .i64 s1.1), (14, encL 1 eLAid a0), (15, .int .i64 (a0.length : Int)), (16, .int .i64 (i2 : Int))], [.arr 2 1 s2.length (fun j => eIi64 (s2.getD j default))]⟩) (fun i2 s2 => s2.length = s1.2.length) (a0.length) 0 s1.2 [0] hz2 ot wt sm ?_
  clear hz2
  intro i2 s2 hi2 hW2 hz2
  refine rS ?_
  refine AWP.seq ?_
  refine AWP.cond rfl (fun hb => ?_) (fun hb => ?_)
  ·have hlt2 : i2 < a0.length := ot
   rw [loopR_lt hlt2] at hz2; simp only [zf_b2] at hz2
   iterate 3 refine rS ?_
   refine AWP.cond rfl (fun hb => ?_) (fun hb => ?_)
   ·simp only [hb, cond_true] at hz2
    refine rS ?_
    refine AWP.exit ?_
    refine exitTo_there rfl ?_
    refine exitTo_here ?_
    subst hz2; dsimp only at hz1
    refine rS ?_
    exact ⟨_, [2], ms, wt, hz1, sm⟩
   ·simp only [hb, cond_false] at hz2
    refine rS ?_
    exact ⟨_, [0], hlt2, wt, hz2, sm⟩
  ·obtain rfl : i2 = a0.length := ot
   rw [loopR_ge (Nat.le_refl _)] at hz2; subst hz2; dsimp only at hz1
   refine AWP.exit ?_; refine exitTo_here ?_
   refine rS ?_
   exact ⟨_, [0], ms, wt, hz1, sm⟩
 ·simp only [hb, cond_false] at hz1
  refine AWP.exit ?_
  refine exitTo_here ?_
  subst hz1; dsimp only at hR
  refine rS ?_
  refine AWP.ret ?_
  subst hR
  exact es
end N109
def D_zf : DF
 | [x0] => some (ownL 2 1 eIi64 (zf (rdL dLAid x0)), false, [wL 1 eLAid dLAid x0])
 | _ => none
theorem D_zf_ok : OkD Tryz.prog 109 D_zf := by unfold D_zf; exact dk N109.den
end Go.Ab

namespace Go.Ab
open Go Go.Proofs
def zy (a0 : (List Aid)) (a1 : Int) : state :=
 (bif (!((zj a0 a1).2)) then { found := false, aid := { Number := 0, Name := [], At := { X := 0, Y := 0 : Point }, Height := 0, Mark := { Kind := 0, Colors := [], Shape := [], Topmark := [] : Mark }, Light := { Kind := 0, Group := [], Letter := [], Colors := [], Period := 0 : Character }, Sectors := [], Intensity := 0 : Aid } : state } else { found := true, aid := (a0.getD (((zj a0 a1).1).toNat) default) : state })
namespace N110
theorem DD : DOk Tryz.prog (Go.Ab.DD [(94, dP D_zj)]) := DD_cons D_zj_ok.e <| DD_nil _
theorem dn : type_of% (@D_zj.eq_1) := by and_intros <;> intros <;> rfl
theorem gr {p : Prop} (h : p := by (grind [zj_ix]); first | done | fail) : p := h
theorem den (a0 : (List Aid)) (a1 : Int)  : Den Tryz.prog 110 [encL 16 eAid a0, .int .i64 a1] (.agg (estate (zy a0 a1))) := by
 generalize hR : zy a0 a1 = r
 unfold zy at hR
 refine di Tryz.func110 Tryz.ntmps110 Tryz.results110 ?_
 intro c hL hc hk
 obtain ⟨hL0, hL1, _⟩ := hL
 have hw0 : a0.length < 9223372036854775808 := Nat.lt_succ_of_le (lens_encL hL0).1
 have hw1 : ∀ v ∈ a0, bwAid v := fun v hv => Aid_lens v ((lens_encL hL0).2 v hv)
 clear hL0 hL1
 simp only [pars, Nat.zero_add]
 have hix := zj_ix a0 a1 (by omega)
 iterate 3 refine rS ?_
 refine AWP.cond rfl (fun hb => ?_) (fun hb => ?_)
 ·replace hR := ct hR
  refine rS ?_
  refine AWP.ret ?_
  subst hR
  exact es
 ·replace hR := cf hR
  refine rS ?_
  refine AWP.ret ?_
  subst hR
  exact es
end N110
def D_zy : DF
 | [x0, x1] => some (.agg (estate (zy (rdL dAid x0) (rdI x1))), false, [wL 16 eAid dAid x0, wI .i64 x1])
 | _ => none
theorem D_zy_ok : OkD Tryz.prog 110 D_zy := by unfold D_zy; exact dk N110.den
end Go.Ab

namespace Go.Ab
open Go Go.Proofs
def zbd (a0 : state) (a1 : state) : Bool :=
 ((a0.found == a1.found) && (zte a0.aid a1.aid))
namespace N111
theorem DD : DOk Tryz.prog (Go.Ab.DD [(143, dP D_zte)]) := DD_cons D_zte_ok.e <| DD_nil _
theorem dn : type_of% (@D_zte.eq_1) := by and_intros <;> intros <;> rfl
theorem den (a0 : state) (a1 : state)  : Den Tryz.prog 111 [.agg (estate a0), .agg (estate a1)] (.bool (zbd a0 a1)) := by
 generalize hR : zbd a0 a1 = r
 unfold zbd at hR
 refine di Tryz.func111 Tryz.ntmps111 Tryz.results111 ?_
 intro c hL hc hk
 obtain ⟨hL0, hL1, _⟩ := hL
 have hw0 : bwstate a0 := state_lens a0 hL0
 have hw1 : bwstate a1 := state_lens a1 hL1
 clear hL0 hL1
 simp only [pars, Nat.zero_add]
 iterate 2 refine rS ?_
 refine AWP.ret ?_
 subst hR
 exact es
end N111
def D_zbd : DF
 | [x0, x1] => some (.bool (zbd (rdG dstate x0) (rdG dstate x1)), false, [wG estate dstate x0, wG estate dstate x1])
 | _ => none
theorem D_zbd_ok : OkD Tryz.prog 111 D_zbd := by unfold D_zbd; exact dk N111.den
end Go.Ab

namespace Go.Ab
open Go Go.Proofs
theorem numStep (qs : List (List Aid)) (n : Int) (out : List Int) (h1 : 1 ≤ n) (h9 : n ≤ 10000) :
  zf_b1 qs (n, out) = bif decide (n ≤ 9999) then .ok (n + 1, out ++ (bif qs.any (fun l => (zj l n).2) then [n] else [])) else .error (.inr (n, out)) := by
 unfold zf_b1
 have hw : IntKind.wrap .i64 (n + 1) = n + 1 := by rw [IntKind.wrap_i64]; omega
 simp only [hw]
 by_cases h : n ≤ 9999
 ·rw [decide_eq_true h]
  simp only [cond_true]
  rw [loopR_foldE qs (zf_b2 qs (n, out)) (fun l s => bif (zj l n).2 then .error (.inr (s ++ [n])) else .ok s) out (fun i s hi => rfl)]
  have : ∀ (r : List (List Aid)), foldE (ρ := Sum (List Int) (List Int)) (fun l s => bif (zj l n).2 then .error (.inr (s ++ [n])) else .ok s) r out = bif r.any (fun l => (zj l n).2) then .error (.inr (out ++ [n])) else .ok out := by
   intro r
   induction r with
   | nil => rfl
   | cons x r ih =>
    simp only [foldE, List.any_cons]
    cases (zj x n).2 with
    | true => rfl
    | false => simp only [cond_false, Bool.false_or]; exact ih
  rw [this]
  cases qs.any (fun l => (zj l n).2) with
  | true => rfl
  | false => simp
 ·rw [decide_eq_false h]; rfl
theorem numRun (qs : List (List Aid)) : ∀ (m fuel : Nat) (n : Int) (out : List Int), 1 ≤ n → n + m = 10000 → m < fuel → out.length ≤ n.toNat →
  ∃ t, loopW (zf_b1 qs) fuel (n, out) = .error (.inr (10000, t)) ∧ t.length ≤ 10000
 | _, 0, _, _, _, _, h, _ => absurd h (Nat.not_lt_zero _)
 | 0, fuel + 1, n, out, h1, h2, _, hl => by
  simp only [loopW]
  rw [numStep qs n out h1 (by omega), decide_eq_false (by omega)]
  have : n = 10000 := by omega
  subst this
  exact ⟨out, rfl, by omega⟩
 | m + 1, fuel + 1, n, out, h1, h2, h3, hl => by
  simp only [loopW]
  rw [numStep qs n out h1 (by omega), decide_eq_true (by omega)]
  simp only [cond_true]
  refine numRun qs m fuel (n + 1) _ (by omega) (by omega) (by omega) ?_
  cases qs.any (fun l => (zj l n).2) <;> simp <;> omega
theorem numbersIn_len (qs : List (List Aid)) : (zf qs).length ≤ 10000 := by
 unfold zf
 obtain ⟨t, h1, h2⟩ := numRun qs 9999 (((10000 - (1 : Int)).toNat) + 1) 1 [] (by omega) (by omega) (by decide) (by simp)
 rw [h1]
 exact h2
end Go.Ab

namespace Go.Ab
open Go Go.Proofs
def zwc_b1 (a0 : (List Aid)) (a1 : (List Aid)) (a2 : (List Aid)) (i1 : Nat) (s1 : List Int) : Except ((List Int)) (List Int) :=
 (bif (((!(zbd (zy a1 ((zf [a0, a1, a2]).getD i1 default)) (zy a2 ((zf [a0, a1, a2]).getD i1 default)))) && (!(zbd (zy a1 ((zf [a0, a1, a2]).getD i1 default)) (zy a0 ((zf [a0, a1, a2]).getD i1 default))))) && (!(zbd (zy a2 ((zf [a0, a1, a2]).getD i1 default)) (zy a0 ((zf [a0, a1, a2]).getD i1 default))))) then .ok (s1 ++ ([((zf [a0, a1, a2]).getD i1 default)] : List Int)) else .ok s1)
def zwc (a0 : (List Aid)) (a1 : (List Aid)) (a2 : (List Aid)) : (List Int) :=
 (match loopR (zwc_b1 a0 a1 a2) (((zf [a0, a1, a2]).length) - 0) 0 ([] : List Int) with | .error e => e | .ok s1 => s1)
namespace N108
theorem DD : DOk Tryz.prog (Go.Ab.DD [(109, dP D_zf), (110, dP D_zy), (111, dP D_zbd)]) := DD_cons D_zf_ok.e <| DD_cons D_zy_ok.e <| DD_cons D_zbd_ok.e <| DD_nil _
theorem dn : type_of% (And.intro @D_zf.eq_1 <| And.intro @D_zy.eq_1 <| @D_zbd.eq_1) := by and_intros <;> intros <;> rfl
theorem gr {p : Prop} (h : p := by (grind [numbersIn_len]); first | done | fail) : p := h
theorem lx {p : Prop} (h : p := by (exact lxx); first | done | fail) : p := h
theorem den (a0 : (List Aid)) (a1 : (List Aid)) (a2 : (List Aid))  : Den Tryz.prog 108 [encL 16 eAid a0, encL 16 eAid a1, encL 16 eAid a2] (ownL 2 1 eIi64 (zwc a0 a1 a2)) := by
 generalize hR : zwc a0 a1 a2 = r
 unfold zwc at hR
 refine di Tryz.func108 Tryz.ntmps108 Tryz.results108 ?_
 intro c hL hc hk
 obtain ⟨hL0, hL1, hL2, _⟩ := hL
 have hw0 : a0.length < 9223372036854775808 := Nat.lt_succ_of_le (lens_encL hL0).1
 have hw1 : ∀ v ∈ a0, bwAid v := fun v hv => Aid_lens v ((lens_encL hL0).2 v hv)
 have hw2 : a1.length < 9223372036854775808 := Nat.lt_succ_of_le (lens_encL hL1).1
 have hw3 : ∀ v ∈ a1, bwAid v := fun v hv => Aid_lens v ((lens_encL hL1).2 v hv)
 have hw4 : a2.length < 9223372036854775808 := Nat.lt_succ_of_le (lens_encL hL2).1
 have hw5 : ∀ v ∈ a2, bwAid v := fun v hv => Aid_lens v ((lens_encL hL2).2 v hv)
 clear hL0 hL1 hL2
 simp only [pars, Nat.zero_add]
 have hnl := numbersIn_len [a0, a1, a2]
 iterate 3 refine rS ?_
 refine AWP.block ?_
 generalize hz1 : loopR (zwc_b1 a0 a1 a2) (((zf [a0, a1, a2]).length) - 0) 0 ([] : List Int) = z1 at hR
 refine AWP.range (zwc_b1 a0 a1 a2) (fun i1 s1 => ⟨[(0, encL 16 eAid a0), (1, encL 16 eAid a1), (2, encL 16 eAid a2), (7, .ref 0 1 0 s1.length), (18, .ref 1 1 0 ((zf [a0, a1, a2]).length)), (19, .int .i64 ((zf [a0, a1, a2]).length : Int)), (20, .int .i64 (i1 : Int))], [.arr 2 1 s1.length (fun j => eIi64 (s1.getD j default)), .arr 2 1 (zf [a0, a1, a2]).length (fun j => eIi64 ((zf [a0, a1, a2]).getD j default))]⟩) (fun i1 s1 => s1.length ≤ i1) (((zf [a0, a1, a2]).length)) 0 ([] : List Int) [0, 2] hz1 ot wt sm ?_
 clear hz1
 intro i1 s1 hi1 hW1 hz1
 refine rS ?_
 refine AWP.seq ?_
 refine AWP.cond rfl (fun hb => ?_) (fun hb => ?_)
 ·have hlt1 : i1 < ((zf [a0, a1, a2]).length) := ot
  rw [loopR_lt hlt1] at hz1; simp only [zwc_b1] at hz1
  iterate 3 refine rS ?_
  refine AWP.cond rfl (fun hb => ?_) (fun hb => ?_)
  ·simp only [hb, cond_true] at hz1
   iterate 2 refine rS ?_
   exact ⟨_, [6, 1], hlt1, wt, hz1, sm⟩
  ·simp only [hb, cond_false] at hz1
   refine rS ?_
   exact ⟨_, [0, 1], hlt1, wt, hz1, sm⟩
 ·obtain rfl : i1 = ((zf [a0, a1, a2]).length) := ot
  rw [loopR_ge (Nat.le_refl _)] at hz1; subst hz1; dsimp only at hR
  refine AWP.exit ?_; refine exitTo_here ?_
  refine rS ?_
  refine AWP.ret ?_
  subst hR
  exact es
end N108
def D_zwc : DF
 | [x0, x1, x2] => some (ownL 2 1 eIi64 (zwc (rdL dAid x0) (rdL dAid x1) (rdL dAid x2)), false, [wL 16 eAid dAid x0, wL 16 eAid dAid x1, wL 16 eAid dAid x2])
 | _ => none
theorem D_zwc_ok : OkD Tryz.prog 108 D_zwc := by unfold D_zwc; exact dk N108.den
end Go.Ab

namespace Go.Ab
open Go Go.Proofs
theorem ist_bd (l : List Aid) (n : Int) (h : ∀ v ∈ l, bdAid v) : bdAid (zy l n).aid := by
 unfold zy
 cases (zj l n).2 with
 | false => exact (by decide : bdAid { Number := 0, Name := [], At := { X := 0, Y := 0 : Point }, Height := 0, Mark := { Kind := 0, Colors := [], Shape := [], Topmark := [] : Mark }, Light := { Kind := 0, Group := [], Letter := [], Colors := [], Period := 0 : Character }, Sectors := [], Intensity := 0 : Aid })
 | true => exact bd_getD h (by decide) _
end Go.Ab
