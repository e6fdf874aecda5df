/- A part of a proof: walks of functions and lemmas of our own. No conditions. -/
import Derived.Test.YtaneiddiakjgdaaGreatDoorUAl
import Derived.Test.YtaneiddiakjgdaaGreatDoorUAi
set_option linter.unusedSectionVars false
set_option linter.unusedVariables false
set_option linter.unusedSimpArgs false
set_option maxHeartbeats 1000000
namespace Go.Ab
open Go Go.Proofs
def zjb_b1 (a0 : (List Aid)) (a1 : Int) (i1 : Nat) (s1 : Unit) : Except (Int) (Unit) :=
 (bif (((a0.getD i1 default).Number) == a1) then .error (i1 : Int) else .ok ())
def zjb (a0 : (List Aid)) (a1 : Int) : Int :=
 (match loopR (zjb_b1 a0 a1) (a0.length - 0) 0 () with | .error e => e | .ok s1 => (-1))
namespace N142
theorem DD : DOk Tryz.prog (Go.Ab.DD []) := DD_nil _
theorem den (a0 : (List Aid)) (a1 : Int)  : Den Tryz.prog 142 [encL 16 eAid a0, .int .i64 a1] (.int .i64 (zjb a0 a1)) := by
 generalize hR : zjb a0 a1 = r
 unfold zjb at hR
 refine di Tryz.func142 Tryz.ntmps142 Tryz.results142 ?_
 intro c hL hc hk
 obtain ⟨hL0, hL1, _⟩ := hL
 have hw0 : a0.length < 9223372036854775808 := Nat.lt_succ_of_le (lens_encL hL0).1
 have hw1 : ∀ v ∈ a0, bwAid v := fun v hv => Aid_lens v ((lens_encL hL0).2 v hv)
 clear hL0 hL1
 simp only [pars, Nat.zero_add]
 iterate 2 refine rS ?_
 refine AWP.block ?_
 generalize hz1 : loopR (zjb_b1 a0 a1) (a0.length - 0) 0 () = z1 at hR
 refine AWP.range (zjb_b1 a0 a1) (fun i1 s1 => ⟨[(0, encL 16 eAid a0), (1, .int .i64 a1), (5, .int .i64 (i1 : Int))], []⟩) (fun i1 s1 => True) (a0.length) 0 () [] hz1 ot wt sm ?_
 clear hz1
 intro i1 s1 hi1 hW1 hz1
 refine rS ?_
 refine AWP.cond rfl (fun hb => ?_) (fun hb => ?_)
 ·have hlt1 : i1 < a0.length := ot
  rw [loopR_lt hlt1] at hz1; simp only [zjb_b1] at hz1
  refine rS ?_
  refine AWP.cond rfl (fun hb => ?_) (fun hb => ?_)
  ·simp only [hb, cond_true] at hz1
   refine rS ?_
   refine AWP.ret ?_
   subst hz1
   dsimp only at hR
   subst hR
   exact es
  ·simp only [hb, cond_false] at hz1
   refine rS ?_
   exact ⟨_, [], hlt1, wt, hz1, sm⟩
 ·obtain rfl : i1 = a0.length := ot
  rw [loopR_ge (Nat.le_refl _)] at hz1; subst hz1; dsimp only at hR
  refine AWP.exit ?_; refine exitTo_here ?_
  refine rS ?_
  refine AWP.ret ?_
  subst hR
  exact es
end N142
def D_zjb : DF
 | [x0, x1] => some (.int .i64 (zjb (rdL dAid x0) (rdI x1)), false, [wL 16 eAid dAid x0, wI .i64 x1])
 | _ => none
theorem D_zjb_ok : OkD Tryz.prog 142 D_zjb := by unfold D_zjb; exact dk N142.den
end Go.Ab

namespace Go.Ab
open Go Go.Proofs
theorem find_first (l : List Aid) (n : Int) : (∃ j, j < l.length ∧ (l.getD j default).Number = n ∧ (∀ q, q < j → (l.getD q default).Number ≠ n) ∧ zjb l n = (j : Int)) ∨ ((∀ q, q < l.length → (l.getD q default).Number ≠ n) ∧ zjb l n = -1) := by
 unfold zjb
 rcases loopR_first (b := zjb_b1 l n) (fun j => (l.getD j default).Number == n) (fun j => (j : Int)) (k := l.length - 0) (i := 0) (s := ()) (fun j u _ _ => rfl) with ⟨j, _, h2, h3, h4, h5⟩ | ⟨h1, h2⟩
 ·left
  rw [h5]
  exact ⟨j, by omega, by simpa using h3, fun q hq => by simpa using h4 q (Nat.zero_le _) hq, rfl⟩
 ·right
  rw [h2]
  exact ⟨fun q hq => by simpa using h1 q (Nat.zero_le _) (by omega), rfl⟩
theorem zjb_lt (l : List Aid) (n : Int) : -1 ≤ zjb l n ∧ zjb l n < l.length := by
 rcases find_first l n with ⟨j, h1, _, _, h2⟩ | ⟨_, h2⟩ <;> omega
end Go.Ab

namespace Go.Ab
open Go Go.Proofs
def zmd_b1 (a0 : (List Sector)) (a1 : (List Sector)) (i1 : Nat) (s1 : Unit) : Except (Bool) (Unit) :=
 (bif (!(((a0.getD i1 default).From) == ((a1.getD i1 default).From) && (((a0.getD i1 default).To) == ((a1.getD i1 default).To) && ((a0.getD i1 default).Color) == ((a1.getD i1 default).Color)))) then .error false else .ok ())
def zmd (a0 : (List Sector)) (a1 : (List Sector)) : Bool :=
 (bif ((a0.length : Int) != (a1.length : Int)) then false else (match loopR (zmd_b1 a0 a1) (a0.length - 0) 0 () with | .error e => e | .ok s1 => true))
namespace N170
theorem DD : DOk Tryz.prog (Go.Ab.DD []) := DD_nil _
theorem den (a0 : (List Sector)) (a1 : (List Sector))  : Den Tryz.prog 170 [encL 3 eSector a0, encL 3 eSector a1] (.bool (zmd a0 a1)) := by
 generalize hR : zmd a0 a1 = r
 unfold zmd at hR
 refine di Tryz.func170 Tryz.ntmps170 Tryz.results170 ?_
 intro c hL hc hk
 obtain ⟨hL0, hL1, _⟩ := hL
 have hw0 : a0.length < 9223372036854775808 := Nat.lt_succ_of_le (lens_encL hL0).1
 have hw1 : ∀ v ∈ a0, bwSector v := fun v hv => Sector_lens v ((lens_encL hL0).2 v hv)
 have hw2 : a1.length < 9223372036854775808 := Nat.lt_succ_of_le (lens_encL hL1).1
 have hw3 : ∀ v ∈ a1, bwSector v := fun v hv => Sector_lens v ((lens_encL hL1).2 v hv)
 clear hL0 hL1
 simp only [pars, Nat.zero_add]
 iterate 2 refine rS ?_
 refine AWP.cond rfl (fun hb => ?_) (fun hb => ?_)
 ·replace hR := ct hR
  refine rS ?_
  refine AWP.ret ?_
  subst hR
  exact es
 ·replace hR := cf hR
  refine rS ?_
  refine AWP.block ?_
  generalize hz1 : loopR (zmd_b1 a0 a1) (a0.length - 0) 0 () = z1 at hR
  refine AWP.range (zmd_b1 a0 a1) (fun i1 s1 => ⟨[(0, encL 3 eSector a0), (1, encL 3 eSector a1), (5, .int .i64 (i1 : Int))], []⟩) (fun i1 s1 => True) (a0.length) 0 () [] hz1 ot wt sm ?_
  clear hz1
  intro i1 s1 hi1 hW1 hz1
  refine rS ?_
  refine AWP.cond rfl (fun hb => ?_) (fun hb => ?_)
  ·have hlt1 : i1 < a0.length := ot
   rw [loopR_lt hlt1] at hz1; simp only [zmd_b1] at hz1
   refine rD 8 ?_
   refine AWP.cond rfl (fun hb => ?_) (fun hb => ?_)
   ·simp only [hb, cond_true] at hz1
    refine rS ?_
    refine AWP.ret ?_
    subst hz1
    dsimp only at hR
    subst hR
    exact es
   ·simp only [hb, cond_false] at hz1
    refine rS ?_
    exact ⟨_, [], hlt1, wt, hz1, sm⟩
  ·obtain rfl : i1 = a0.length := ot
   rw [loopR_ge (Nat.le_refl _)] at hz1; subst hz1; dsimp only at hR
   refine AWP.exit ?_; refine exitTo_here ?_
   refine rS ?_
   refine AWP.ret ?_
   subst hR
   exact es
end N170
def D_zmd : DF
 | [x0, x1] => some (.bool (zmd (rdL dSector x0) (rdL dSector x1)), false, [wL 3 eSector dSector x0, wL 3 eSector dSector x1])
 | _ => none
theorem D_zmd_ok : OkD Tryz.prog 170 D_zmd := by unfold D_zmd; exact dk N170.den
end Go.Ab

namespace Go.Ab
open Go Go.Proofs
def znd_b1 (a0 : (List Int)) (a1 : (List Int)) (i1 : Nat) (s1 : Unit) : Except (Bool) (Unit) :=
 (bif ((a0.getD i1 default) != (a1.getD i1 default)) then .error false else .ok ())
def znd (a0 : (List Int)) (a1 : (List Int)) : Bool :=
 (bif ((a0.length : Int) != (a1.length : Int)) then false else (match loopR (znd_b1 a0 a1) (a0.length - 0) 0 () with | .error e => e | .ok s1 => true))
namespace N206
theorem DD : DOk Tryz.prog (Go.Ab.DD []) := DD_nil _
theorem den (a0 : (List Int)) (a1 : (List Int))  : Den Tryz.prog 206 [encL 1 eIi64 a0, encL 1 eIi64 a1] (.bool (znd a0 a1)) := by
 generalize hR : znd a0 a1 = r
 unfold znd at hR
 refine di Tryz.func206 Tryz.ntmps206 Tryz.results206 ?_
 intro c hL hc hk
 obtain ⟨hL0, hL1, _⟩ := hL
 have hw0 : a0.length < 9223372036854775808 := Nat.lt_succ_of_le (lens_encL hL0).1
 have hw1 : a1.length < 9223372036854775808 := Nat.lt_succ_of_le (lens_encL hL1).1
 clear hL0 hL1
 simp only [pars, Nat.zero_add]
 iterate 2 refine rS ?_
 refine AWP.cond rfl (fun hb => ?_) (fun hb => ?_)
 ·replace hR := ct hR
  refine rS ?_
  refine AWP.ret ?_
  subst hR
  exact es
 ·replace hR := cf hR
  refine rS ?_
  refine AWP.block ?_
  generalize hz1 : loopR (znd_b1 a0 a1) (a0.length - 0) 0 () = z1 at hR
  refine AWP.range (znd_b1 a0 a1) (fun i1 s1 => ⟨[(0, encL 1 eIi64 a0), (1, encL 1 eIi64 a1), (5, .int .i64 (i1 : Int))], []⟩) (fun i1 s1 => True) (a0.length) 0 () [] hz1 ot wt sm ?_
  clear hz1
  intro i1 s1 hi1 hW1 hz1
  refine rS ?_
  refine AWP.cond rfl (fun hb => ?_) (fun hb => ?_)
  ·have hlt1 : i1 < a0.length := ot
   rw [loopR_lt hlt1] at hz1; simp only [znd_b1] at hz1
   refine rD 8 ?_
   refine AWP.cond rfl (fun hb => ?_) (fun hb => ?_)
   ·simp only [hb, cond_true] at hz1
    refine rS ?_
    refine AWP.ret ?_
    subst hz1
    dsimp only at hR
    subst hR
    exact es
   ·simp only [hb, cond_false] at hz1
    refine rS ?_
    exact ⟨_, [], hlt1, wt, hz1, sm⟩
  ·obtain rfl : i1 = a0.length := ot
   rw [loopR_ge (Nat.le_refl _)] at hz1; subst hz1; dsimp only at hR
   refine AWP.exit ?_; refine exitTo_here ?_
   refine rS ?_
   refine AWP.ret ?_
   subst hR
   exact es
end N206
def D_znd : DF
 | [x0, x1] => some (.bool (znd (rdL dIi64 x0) (rdL dIi64 x1)), false, [wL 1 eIi64 dIi64 x0, wL 1 eIi64 dIi64 x1])
 | _ => none
theorem D_znd_ok : OkD Tryz.prog 206 D_znd := by unfold D_znd; exact dk N206.den
end Go.Ab

namespace Go.Ab
open Go Go.Proofs
def zne (a0 : Character) (a1 : Character) : Bool :=
 (((((a0.Kind == a1.Kind) && (znd a0.Group a1.Group)) && (a0.Letter == a1.Letter)) && (a0.Colors == a1.Colors)) && (a0.Period == a1.Period))
namespace N169
theorem DD : DOk Tryz.prog (Go.Ab.DD [(206, dP D_znd)]) := DD_cons D_znd_ok.e <| DD_nil _
theorem dn : type_of% (@D_znd.eq_1) := by and_intros <;> intros <;> rfl
theorem den (a0 : Character) (a1 : Character)  : Den Tryz.prog 169 [.ep (eCharacter a0), .ep (eCharacter a1)] (.bool (zne a0 a1)) := by
 generalize hR : zne a0 a1 = r
 unfold zne at hR
 refine di Tryz.func169 Tryz.ntmps169 Tryz.results169 ?_
 intro c hL hc hk
 obtain ⟨hL0, hL1, _⟩ := hL
 have hw0 : bwCharacter a0 := Character_lens a0 hL0
 have hw1 : bwCharacter a1 := Character_lens a1 hL1
 clear hL0 hL1
 simp only [pars, Nat.zero_add]
 refine rS ?_
 refine rD 53 ?_
 refine AWP.ret ?_
 subst hR
 exact es
end N169
def D_zne : DF
 | [x0, x1] => some (.bool (zne (rdP dCharacter x0) (rdP dCharacter x1)), false, [wP eCharacter dCharacter x0, wP eCharacter dCharacter x1])
 | _ => none
theorem D_zne_ok : OkD Tryz.prog 169 D_zne := by unfold D_zne; exact dk N169.den
end Go.Ab

namespace Go.Ab
open Go Go.Proofs
def ztc (a0 : Aid) (a1 : Aid) : Bool :=
 ((((((((a0.Number == a1.Number) && (a0.Name == a1.Name)) && (a0.At.X == a1.At.X && a0.At.Y == a1.At.Y)) && (a0.Height == a1.Height)) && (a0.Mark.Kind == a1.Mark.Kind && (a0.Mark.Colors == a1.Mark.Colors && (a0.Mark.Shape == a1.Mark.Shape && a0.Mark.Topmark == a1.Mark.Topmark)))) && (zne a0.Light a1.Light)) && (zmd a0.Sectors a1.Sectors)) && (a0.Intensity == a1.Intensity))
namespace N105
theorem DD : DOk Tryz.prog (Go.Ab.DD [(169, dP D_zne), (170, dP D_zmd)]) := DD_cons D_zne_ok.e <| DD_cons D_zmd_ok.e <| DD_nil _
theorem dn : type_of% (And.intro @D_zne.eq_1 <| @D_zmd.eq_1) := by and_intros <;> intros <;> rfl
set_option maxHeartbeats 4000000 in
set_option maxRecDepth 20000 in
theorem den (a0 : Aid) (a1 : Aid)  : Den Tryz.prog 105 [.ep (eAid a0), .ep (eAid a1)] (.bool (ztc a0 a1)) := by
 generalize hR : ztc a0 a1 = r
 unfold ztc at hR
 refine di Tryz.func105 Tryz.ntmps105 Tryz.results105 ?_
 intro c hL hc hk
 obtain ⟨hL0, hL1, _⟩ := hL
 have hw0 : bwAid a0 := Aid_lens a0 hL0
 have hw1 : bwAid a1 := Aid_lens a1 hL1
 clear hL0 hL1
 simp only [pars, Nat.zero_add]
 refine rS ?_
 refine rD 84 ?_
 refine AWP.ret ?_
 subst hR
 exact es
end N105
def D_ztc : DF
 | [x0, x1] => some (.bool (ztc (rdP dAid x0) (rdP dAid x1)), false, [wP eAid dAid x0, wP eAid dAid x1])
 | _ => none
theorem D_ztc_ok : OkD Tryz.prog 105 D_ztc := by unfold D_ztc; exact dk N105.den
end Go.Ab

namespace Go.Ab
open Go Go.Proofs
def zgb_b1 (a0 : (List Int)) (a1 : Int) (i1 : Nat) (s1 : Bool × List Int) : Except ((List Int)) (Bool × List Int) :=
 (bif ((!s1.1) && decide (a1 ≤ (a0.getD i1 default))) then (bif decide (a1 < (a0.getD i1 default)) then .ok (true, (s1.2 ++ ([a1] : List Int)) ++ ([(a0.getD i1 default)] : List Int)) else .ok (true, s1.2 ++ ([(a0.getD i1 default)] : List Int))) else .ok (s1.1, s1.2 ++ ([(a0.getD i1 default)] : List Int)))
def zgb (a0 : (List Int)) (a1 : Int) : (List Int) :=
 (match loopR (zgb_b1 a0 a1) (a0.length - 0) 0 (false, ([] : List Int)) with | .error e => e | .ok s1 => (bif (!s1.1) then s1.2 ++ ([a1] : List Int) else s1.2))
namespace N168
theorem DD : DOk Tryz.prog (Go.Ab.DD []) := DD_nil _
theorem den (a0 : (List Int)) (a1 : Int) (hb0 : a0.length < 1099511627776) : Den Tryz.prog 168 [encL 1 eIi64 a0, .int .i64 a1] (ownL 2 1 eIi64 (zgb a0 a1)) := by
 generalize hR : zgb a0 a1 = r
 unfold zgb at hR
 refine di Tryz.func168 Tryz.ntmps168 Tryz.results168 ?_
 intro c hL hc hk
 obtain ⟨hL0, hL1, _⟩ := hL
 have hw0 : a0.length < 9223372036854775808 := Nat.lt_succ_of_le (lens_encL hL0).1
 clear hL0 hL1
 simp only [pars, Nat.zero_add]
 iterate 4 refine rS ?_
 refine AWP.block ?_
 generalize hz1 : loopR (zgb_b1 a0 a1) (a0.length - 0) 0 (false, ([] : List Int)) = z1 at hR
 refine AWP.range (zgb_b1 a0 a1) (fun i1 s1 => ⟨[(0, encL 1 eIi64 a0), (1, .int .i64 a1), (5, .ref 0 1 0 s1.2.length), (6, .bool s1.1), (7, .int .i64 (i1 : Int))], [.arr 2 1 s1.2.length (fun j => eIi64 (s1.2.getD j default))]⟩) (fun i1 s1 => s1.2.length ≤ ([] : List Int).length + 2 * i1 ∧ s1.2.length ≤ i1 + 1 ∧ (s1.1 = false → s1.2.length ≤ i1)) (a0.length) 0 (false, ([] : List Int)) [0] hz1 ot (by (simp)) sm ?_
 clear hz1
 intro i1 s1 hi1 hW1 hz1
 refine rS ?_
 refine AWP.cond rfl (fun hb => ?_) (fun hb => ?_)
 ·have hlt1 : i1 < a0.length := ot
  rw [loopR_lt hlt1] at hz1; simp only [zgb_b1] at hz1
  refine rS ?_
  refine AWP.cond rfl (fun hb => ?_) (fun hb => ?_)
  ·simp only [hb, cond_true] at hz1
   iterate 2 refine rS ?_
   refine AWP.cond rfl (fun hb => ?_) (fun hb => ?_)
   ·simp only [hb, cond_true] at hz1
    iterate 3 refine rS ?_
    exact ⟨_, [4], hlt1, by (cases s1 with | mk d l => cases d <;> simp_all <;> omega), hz1, sm⟩
   ·simp only [hb, cond_false] at hz1
    iterate 2 refine rS ?_
    exact ⟨_, [2], hlt1, by (cases s1 with | mk d l => cases d <;> simp_all <;> omega), hz1, sm⟩
  ·simp only [hb, cond_false] at hz1
   iterate 2 refine rS ?_
   exact ⟨_, [2], hlt1, by (cases s1 with | mk d l => cases d <;> simp_all <;> omega), hz1, sm⟩
 ·obtain rfl : i1 = a0.length := ot
  rw [loopR_ge (Nat.le_refl _)] at hz1; subst hz1; dsimp only at hR
  refine AWP.exit ?_; refine exitTo_here ?_
  refine rS ?_
  refine AWP.cond rfl (fun hb => ?_) (fun hb => ?_)
  ·replace hR := ct hR
   iterate 2 refine rS ?_
   refine AWP.ret ?_
   subst hR
   exact es
  ·replace hR := cf hR
   refine rS ?_
   refine AWP.ret ?_
   subst hR
   exact es
end N168
def D_zgb : DF
 | [x0, x1] => some (ownL 2 1 eIi64 (zgb (rdL dIi64 x0) (rdI x1)), false, [wL 1 eIi64 dIi64 x0, wI .i64 x1, (rdL dIi64 x0).length < 1099511627776])
 | _ => none
theorem D_zgb_ok : OkD Tryz.prog 168 D_zgb := by unfold D_zgb; exact dk N168.den
end Go.Ab

namespace Go.Ab
open Go Go.Proofs
theorem l00Put_len (l : List Int) (n : Int) : (zgb l n).length ≤ l.length + 1 := by
 unfold zgb
 obtain ⟨t, h1, h2⟩ := loopR_total (b := zgb_b1 l n) (fun j s => s.2.length ≤ j + 1 ∧ (s.1 = false → s.2.length ≤ j)) (k := l.length - 0) (i := 0) (s := (false, [])) (by simp) (by
  intro j u _ _ h
  obtain ⟨d, s⟩ := u
  simp only [zgb_b1]
  cases d with
  | true => exact ⟨_, rfl, by simp at h ⊢; omega⟩
  | false =>
   cases decide (n ≤ (l.getD j default)) with
   | false => exact ⟨_, rfl, by simp at h ⊢; omega⟩
   | true =>
    cases decide (n < (l.getD j default)) with
    | false => exact ⟨_, rfl, by simp at h ⊢; omega⟩
    | true => exact ⟨_, rfl, by simp at h ⊢; omega⟩)
 rw [h1]
 obtain ⟨d, s⟩ := t
 cases d with
 | true => simp at h2 ⊢; omega
 | false => simp at h2 ⊢; omega
end Go.Ab

namespace Go.Ab
open Go Go.Proofs
def ze_b1 (a0 : (List Aid)) (a1 : (List Aid)) (a2 : (List Aid)) (i1 : Nat) (s1 : List Int) : Except ((List Int)) (List Int) :=
 .ok (zgb s1 ((a0.getD i1 default).Number))
def ze_b2 (a0 : (List Aid)) (a1 : (List Aid)) (a2 : (List Aid)) (s1 : List Int) (i2 : Nat) (s2 : List Int) : Except ((List Int)) (List Int) :=
 .ok (zgb s2 ((a1.getD i2 default).Number))
def ze_b3 (a0 : (List Aid)) (a1 : (List Aid)) (a2 : (List Aid)) (s1 : List Int) (s2 : List Int) (i3 : Nat) (s3 : List Int) : Except ((List Int)) (List Int) :=
 .ok (zgb s3 ((a2.getD i3 default).Number))
def ze (a0 : (List Aid)) (a1 : (List Aid)) (a2 : (List Aid)) : (List Int) :=
 (match loopR (ze_b1 a0 a1 a2) (a0.length - 0) 0 ([] : List Int) with | .error e => e | .ok s1 => (match loopR (ze_b2 a0 a1 a2 s1) (a1.length - 0) 0 s1 with | .error e => e | .ok s2 => (match loopR (ze_b3 a0 a1 a2 s1 s2) (a2.length - 0) 0 s2 with | .error e => e | .ok s3 => s3)))
namespace N103
theorem DD : DOk Tryz.prog (Go.Ab.DD [(168, dP D_zgb)]) := DD_cons D_zgb_ok.e <| DD_nil _
theorem dn : type_of% (@D_zgb.eq_1) := by and_intros <;> intros <;> rfl
theorem gr {p : Prop} (h : p := by (grind [l00Put_len]); first | done | fail) : p := h
theorem den (a0 : (List Aid)) (a1 : (List Aid)) (a2 : (List Aid)) (hp0 : a0.length ≤ 1048576) (hp1 : a1.length ≤ 1048576) (hp2 : a2.length ≤ 1048576) : Den Tryz.prog 103 [encL 16 eAid a0, encL 16 eAid a1, encL 16 eAid a2] (ownL 2 1 eIi64 (ze a0 a1 a2)) := by
 generalize hR : ze a0 a1 a2 = r
 unfold ze at hR
 refine di Tryz.func103 Tryz.ntmps103 Tryz.results103 ?_
 intro c hL hc hk
 obtain ⟨hL0, hL1, hL2, _⟩ := hL
 have hw0 : a0.length < 9223372036854775808 := Nat.lt_succ_of_le (lens_encL hL0).1
 have hw1 : ∀ v ∈ a0, bwAid v := fun v hv => Aid_lens v ((lens_encL hL0).2 v hv)
 have hw2 : a1.length < 9223372036854775808 := Nat.lt_succ_of_le (lens_encL hL1).1
 have hw3 : ∀ v ∈ a1, bwAid v := fun v hv => Aid_lens v ((lens_encL hL1).2 v hv)
 have hw4 : a2.length < 9223372036854775808 := Nat.lt_succ_of_le (lens_encL hL2).1
 have hw5 : ∀ v ∈ a2, bwAid v := fun v hv => Aid_lens v ((lens_encL hL2).2 v hv)
 clear hL0 hL1 hL2
 simp only [pars, Nat.zero_add]
 iterate 3 refine rS ?_
 refine AWP.block ?_
 generalize hz1 : loopR (ze_b1 a0 a1 a2) (a0.length - 0) 0 ([] : List Int) = z1 at hR
 refine AWP.range (ze_b1 a0 a1 a2) (fun i1 s1 => ⟨[(0, encL 16 eAid a0), (1, encL 16 eAid a1), (2, encL 16 eAid a2), (7, .ref 0 1 0 s1.length), (8, .int .i64 (i1 : Int))], [.arr 2 1 s1.length (fun j => eIi64 (s1.getD j default))]⟩) (fun i1 s1 => s1.length ≤ i1) (a0.length) 0 ([] : List Int) [0] hz1 ot (by (simp)) sm ?_
 clear hz1
 intro i1 s1 hi1 hW1 hz1
 refine rS ?_
 refine AWP.cond rfl (fun hb => ?_) (fun hb => ?_)
 ·have hlt1 : i1 < a0.length := ot
  rw [loopR_lt hlt1] at hz1; simp only [ze_b1] at hz1
  iterate 2 refine rS ?_
  exact ⟨_, [1], hlt1, by (have h1 := hW1; have h2 := l00Put_len s1 ((a0.getD i1 default).Number); omega), hz1, sm⟩
 ·obtain rfl : i1 = a0.length := ot
  rw [loopR_ge (Nat.le_refl _)] at hz1; subst hz1; dsimp only at hR
  refine AWP.exit ?_; refine exitTo_here ?_
  refine rS ?_
  refine AWP.block ?_
  generalize hz2 : loopR (ze_b2 a0 a1 a2 s1) (a1.length - 0) 0 s1 = z2 at hR
  refine AWP.range (ze_b2 a0 a1 a2 s1) (fun i2 s2 => ⟨[(1, encL 16 eAid a1), (2, encL 16 eAid a2), (7, .ref 0 1 0 s2.length), (9, .int .i64 (i2 : Int))], [.arr 2 1 s2.length (fun j => eIi64 (s2.getD j default))]⟩) (fun i2 s2 => s2.length ≤ a0.length + i2) (a1.length) 0 s1 [0] hz2 ot (by (have h1 := hW1; omega)) sm ?_
  clear hz2
  intro i2 s2 hi2 hW2 hz2
  refine rS ?_
  refine AWP.cond rfl (fun hb => ?_) (fun hb => ?_)
  ·have hlt2 : i2 < a1.length := ot
   rw [loopR_lt hlt2] at hz2; simp only [ze_b2] at hz2
   iterate 2 refine rS ?_
   exact ⟨_, [1], hlt2, by (have h1 := hW2; have h2 := l00Put_len s2 ((a1.getD i2 default).Number); omega), hz2, sm⟩
  ·obtain rfl : i2 = a1.length := ot
   rw [loopR_ge (Nat.le_refl _)] at hz2; subst hz2; dsimp only at hR
   refine AWP.exit ?_; refine exitTo_here ?_
   refine rS ?_
   refine AWP.block ?_
   generalize hz3 : loopR (ze_b3 a0 a1 a2 s1 s2) (a2.length - 0) 0 s2 = z3 at hR
   refine AWP.range (ze_b3 a0 a1 a2 s1 s2) (fun i3 s3 => ⟨[(2, encL 16 eAid a2), (7, .ref 0 1 0 s3.length), (10, .int .i64 (i3 : Int))], [.arr 2 1 s3.length (fun j => eIi64 (s3.getD j default))]⟩) (fun i3 s3 => s3.length ≤ a0.length + a1.length + i3) (a2.length) 0 s2 [0] hz3 ot (by (have h1 := hW2; omega)) sm ?_
   clear hz3
   intro i3 s3 hi3 hW3 hz3
   refine rS ?_
   refine AWP.cond rfl (fun hb => ?_) (fun hb => ?_)
   ·have hlt3 : i3 < a2.length := ot
    rw [loopR_lt hlt3] at hz3; simp only [ze_b3] at hz3
    iterate 2 refine rS ?_
    exact ⟨_, [1], hlt3, by (have h1 := hW3; have h2 := l00Put_len s3 ((a2.getD i3 default).Number); omega), hz3, sm⟩
   ·obtain rfl : i3 = a2.length := ot
    rw [loopR_ge (Nat.le_refl _)] at hz3; subst hz3; dsimp only at hR
    refine AWP.exit ?_; refine exitTo_here ?_
    refine rS ?_
    refine AWP.ret ?_
    subst hR
    exact es
end N103
def D_ze : DF
 | [x0, x1, x2] => some (ownL 2 1 eIi64 (ze (rdL dAid x0) (rdL dAid x1) (rdL dAid x2)), false, [wL 16 eAid dAid x0, wL 16 eAid dAid x1, wL 16 eAid dAid x2, (rdL dAid x0).length ≤ 1048576, (rdL dAid x1).length ≤ 1048576, (rdL dAid x2).length ≤ 1048576])
 | _ => none
theorem D_ze_ok : OkD Tryz.prog 103 D_ze := by unfold D_ze; exact dk N103.den
end Go.Ab

namespace Go.Ab
open Go Go.Proofs
def zhb (a0 : (List Aid)) (a1 : Int) : Aid :=
 (bif decide ((zjb a0 a1) < 0) then { Number := 0, Name := [], At := { X := 0, Y := 0 : Point }, Height := 0, Mark := { Kind := 0, Colors := [], Shape := [], Topmark := [] : Mark }, Light := { Kind := 0, Group := [], Letter := [], Colors := [], Period := 0 : Character }, Sectors := [], Intensity := 0 : Aid } else (a0.getD (((zjb a0 a1)).toNat) default))
namespace N104
theorem DD : DOk Tryz.prog (Go.Ab.DD [(142, dP D_zjb)]) := DD_cons D_zjb_ok.e <| DD_nil _
theorem dn : type_of% (@D_zjb.eq_1) := by and_intros <;> intros <;> rfl
theorem gr {p : Prop} (h : p := by (grind [zjb_lt]); first | done | fail) : p := h
theorem den (a0 : (List Aid)) (a1 : Int)  : Den Tryz.prog 104 [encL 16 eAid a0, .int .i64 a1] (.agg (eAid (zhb a0 a1))) := by
 generalize hR : zhb a0 a1 = r
 unfold zhb at hR
 refine di Tryz.func104 Tryz.ntmps104 Tryz.results104 ?_
 intro c hL hc hk
 obtain ⟨hL0, hL1, _⟩ := hL
 have hw0 : a0.length < 9223372036854775808 := Nat.lt_succ_of_le (lens_encL hL0).1
 have hw1 : ∀ v ∈ a0, bwAid v := fun v hv => Aid_lens v ((lens_encL hL0).2 v hv)
 clear hL0 hL1
 simp only [pars, Nat.zero_add]
 have hix := zjb_lt a0 a1
 iterate 3 refine rS ?_
 refine AWP.cond rfl (fun hb => ?_) (fun hb => ?_)
 ·replace hR := ct hR
  refine rS ?_
  refine AWP.ret ?_
  subst hR
  exact es
 ·replace hR := cf hR
  refine rS ?_
  refine AWP.ret ?_
  subst hR
  exact es
end N104
def D_zhb : DF
 | [x0, x1] => some (.agg (eAid (zhb (rdL dAid x0) (rdI x1))), false, [wL 16 eAid dAid x0, wI .i64 x1])
 | _ => none
theorem D_zhb_ok : OkD Tryz.prog 104 D_zhb := by unfold D_zhb; exact dk N104.den
end Go.Ab

namespace Go.Ab
open Go Go.Proofs
theorem l23Num_len (a b c : List Aid) : (ze a b c).length ≤ a.length + b.length + c.length := by
 unfold ze
 obtain ⟨t1, e1, m1⟩ := loopR_total (b := ze_b1 a b c) (fun j s => s.length ≤ j) (k := a.length - 0) (i := 0) (s := ([] : List Int)) (by simp) (by
  intro j u _ _ h
  exact ⟨_, rfl, by have := l00Put_len u ((a.getD j default).Number); omega⟩)
 rw [e1]
 dsimp only
 obtain ⟨t2, e2, m2⟩ := loopR_total (b := ze_b2 a b c t1) (fun j s => s.length ≤ a.length + j) (k := b.length - 0) (i := 0) (s := t1) (by omega) (by
  intro j u _ _ h
  exact ⟨_, rfl, by have := l00Put_len u ((b.getD j default).Number); omega⟩)
 rw [e2]
 dsimp only
 obtain ⟨t3, e3, m3⟩ := loopR_total (b := ze_b3 a b c t1 t2) (fun j s => s.length ≤ a.length + b.length + j) (k := c.length - 0) (i := 0) (s := t2) (by omega) (by
  intro j u _ _ h
  exact ⟨_, rfl, by have := l00Put_len u ((c.getD j default).Number); omega⟩)
 rw [e3]
 dsimp only
 omega
end Go.Ab

namespace Go.Ab
open Go Go.Proofs
def zhc_b1 (a0 : (List Aid)) (a1 : (List Aid)) (a2 : (List Aid)) (i1 : Nat) (s1 : List Int) : Except ((List Int)) (List Int) :=
 (bif (((!(ztc (zhb a0 ((ze a0 a1 a2).getD i1 default)) (zhb a1 ((ze a0 a1 a2).getD i1 default)))) && (!(ztc (zhb a0 ((ze a0 a1 a2).getD i1 default)) (zhb a2 ((ze a0 a1 a2).getD i1 default))))) && (!(ztc (zhb a1 ((ze a0 a1 a2).getD i1 default)) (zhb a2 ((ze a0 a1 a2).getD i1 default))))) then .ok (s1 ++ ([((ze a0 a1 a2).getD i1 default)] : List Int)) else .ok s1)
def zhc (a0 : (List Aid)) (a1 : (List Aid)) (a2 : (List Aid)) : (List Int) :=
 (match loopR (zhc_b1 a0 a1 a2) (((ze a0 a1 a2).length) - 0) 0 ([] : List Int) with | .error e => e | .ok s1 => s1)
namespace N102
theorem DD : DOk Tryz.prog (Go.Ab.DD [(103, dP D_ze), (104, dP D_zhb), (105, dP D_ztc)]) := DD_cons D_ze_ok.e <| DD_cons D_zhb_ok.e <| DD_cons D_ztc_ok.e <| DD_nil _
theorem dn : type_of% (And.intro @D_ze.eq_1 <| And.intro @D_zhb.eq_1 <| @D_ztc.eq_1) := by and_intros <;> intros <;> rfl
theorem den (a0 : (List Aid)) (a1 : (List Aid)) (a2 : (List Aid)) (hp0 : a0.length ≤ 1048576) (hp1 : a1.length ≤ 1048576) (hp2 : a2.length ≤ 1048576) : Den Tryz.prog 102 [encL 16 eAid a0, encL 16 eAid a1, encL 16 eAid a2] (ownL 2 1 eIi64 (zhc a0 a1 a2)) := by
 generalize hR : zhc a0 a1 a2 = r
 unfold zhc at hR
 refine di Tryz.func102 Tryz.ntmps102 Tryz.results102 ?_
 intro c hL hc hk
 obtain ⟨hL0, hL1, hL2, _⟩ := hL
 have hw0 : a0.length < 9223372036854775808 := Nat.lt_succ_of_le (lens_encL hL0).1
 have hw1 : ∀ v ∈ a0, bwAid v := fun v hv => Aid_lens v ((lens_encL hL0).2 v hv)
 have hw2 : a1.length < 9223372036854775808 := Nat.lt_succ_of_le (lens_encL hL1).1
 have hw3 : ∀ v ∈ a1, bwAid v := fun v hv => Aid_lens v ((lens_encL hL1).2 v hv)
 have hw4 : a2.length < 9223372036854775808 := Nat.lt_succ_of_le (lens_encL hL2).1
 have hw5 : ∀ v ∈ a2, bwAid v := fun v hv => Aid_lens v ((lens_encL hL2).2 v hv)
 clear hL0 hL1 hL2
 simp only [pars, Nat.zero_add]
 have hnl : (ze a0 a1 a2).length ≤ a0.length + a1.length + a2.length := l23Num_len a0 a1 a2
 iterate 4 refine rS ?_
 refine AWP.block ?_
 generalize hz1 : loopR (zhc_b1 a0 a1 a2) (((ze a0 a1 a2).length) - 0) 0 ([] : List Int) = z1 at hR
 refine AWP.range (zhc_b1 a0 a1 a2) (fun i1 s1 => ⟨[(0, encL 16 eAid a0), (1, encL 16 eAid a1), (2, encL 16 eAid a2), (7, .ref 0 1 0 ((ze a0 a1 a2).length)), (8, .ref 1 1 0 s1.length), (9, .int .i64 (i1 : Int))], [.arr 2 1 (ze a0 a1 a2).length (fun j => eIi64 ((ze a0 a1 a2).getD j default)), .arr 2 1 s1.length (fun j => eIi64 (s1.getD j default))]⟩) (fun i1 s1 => s1.length ≤ ([] : List Int).length + 1 * i1 ∧ s1.length ≤ i1) (((ze a0 a1 a2).length)) 0 ([] : List Int) [0, 1] hz1 ot wt sm ?_
 clear hz1
 intro i1 s1 hi1 hW1 hz1
 refine rS ?_
 refine AWP.cond rfl (fun hb => ?_) (fun hb => ?_)
 ·have hlt1 : i1 < ((ze a0 a1 a2).length) := ot
  rw [loopR_lt hlt1] at hz1; simp only [zhc_b1] at hz1
  iterate 4 refine rS ?_
  refine AWP.cond rfl (fun hb => ?_) (fun hb => ?_)
  ·simp only [hb, cond_true] at hz1
   iterate 2 refine rS ?_
   exact ⟨_, [0, 6], hlt1, wt, hz1, sm⟩
  ·simp only [hb, cond_false] at hz1
   refine rS ?_
   exact ⟨_, [0, 1], hlt1, wt, hz1, sm⟩
 ·obtain rfl : i1 = ((ze a0 a1 a2).length) := ot
  rw [loopR_ge (Nat.le_refl _)] at hz1; subst hz1; dsimp only at hR
  refine AWP.exit ?_; refine exitTo_here ?_
  refine rS ?_
  refine AWP.ret ?_
  subst hR
  exact es
end N102
def D_zhc : DF
 | [x0, x1, x2] => some (ownL 2 1 eIi64 (zhc (rdL dAid x0) (rdL dAid x1) (rdL dAid x2)), false, [wL 16 eAid dAid x0, wL 16 eAid dAid x1, wL 16 eAid dAid x2, (rdL dAid x0).length ≤ 1048576, (rdL dAid x1).length ≤ 1048576, (rdL dAid x2).length ≤ 1048576])
 | _ => none
theorem D_zhc_ok : OkD Tryz.prog 102 D_zhc := by unfold D_zhc; exact dk N102.den
end Go.Ab

namespace Go.Ab
open Go Go.Proofs
theorem st_bd (l : List Aid) (n : Int) (h : ∀ v ∈ l, bdAid v) : bdAid (zhb l n) := by
 unfold zhb
 cases decide (zjb l n < 0) with
 | true => exact (by decide : bdAid { Number := 0, Name := [], At := { X := 0, Y := 0 : Point }, Height := 0, Mark := { Kind := 0, Colors := [], Shape := [], Topmark := [] : Mark }, Light := { Kind := 0, Group := [], Letter := [], Colors := [], Period := 0 : Character }, Sectors := [], Intensity := 0 : Aid })
 | false => exact bd_getD h (by decide) _
end Go.Ab
