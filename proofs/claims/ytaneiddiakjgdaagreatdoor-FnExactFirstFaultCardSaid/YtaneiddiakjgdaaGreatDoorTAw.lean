/- A part of a proof: walks of functions and lemmas of our own. No conditions. -/
import Derived.Test.YtaneiddiakjgdaaGreatDoorTAl
import Derived.Test.YtaneiddiakjgdaaGreatDoorTAv
import Derived.Test.YtaneiddiakjgdaaGreatDoorTAi
import Derived.Test.YtaneiddiakjgdaaGreatDoorTAm
import Derived.Test.YtaneiddiakjgdaaGreatDoorTAn
import Derived.Test.YtaneiddiakjgdaaGreatDoorTAo
set_option linter.unusedSectionVars false
set_option linter.unusedVariables false
set_option linter.unusedSimpArgs false
set_option maxHeartbeats 1000000
namespace Go.Ab
open Go Go.Proofs
def laws_toCharacter (a0 : Character) : Character :=
  { Kind := a0.Kind, Group := (laws_toInt64S a0.Group), Letter := a0.Letter, Colors := a0.Colors, Period := a0.Period : Character }
namespace N91
theorem DD : DOk Tryz.prog (Go.Ab.DD [(156, dP D_laws_toInt64S)]) := DD_cons D_laws_toInt64S_ok.e <| DD_nil _
theorem dn : type_of% (@D_laws_toInt64S.eq_1) := by and_intros <;> intros <;> rfl
theorem ol : type_of% (@laws_toInt64S_id) := @laws_toInt64S_id
theorem den (a0 : Character) (hb0 : bdCharacter a0) : Den Tryz.prog 91 [.agg (eCharacter a0)] (.agg (eCharacterO (laws_toCharacter a0))) := by
  generalize hR : laws_toCharacter a0 = r
  unfold laws_toCharacter at hR
  refine di Tryz.func91 Tryz.ntmps91 Tryz.results91 ?_
  intro c hL hc hk
  obtain ⟨hL0, _⟩ := hL
  have hw0 : bwCharacter a0 := Character_lens a0 hL0
  clear hL0
  simp only [pars, Nat.zero_add]
  iterate 8 refine rS ?_
  refine AWP.ret ?_
  subst hR
  exact es
end N91
def D_laws_toCharacter : DF
  | [x0] => some (.agg (eCharacterO (laws_toCharacter (rdG dCharacter x0))), false, [wG eCharacter dCharacter x0, bdCharacter (rdG dCharacter x0)])
  | _ => none
def Dz_laws_toCharacter : DF
  | [x0] => some (.agg (eCharacterO (laws_toCharacter (rdG dCharacter x0))), true, [wG eCharacter dCharacter x0, bdCharacter (rdG dCharacter x0)])
  | _ => none
theorem D_laws_toCharacter_ok : OkD Tryz.prog 91 D_laws_toCharacter := by unfold D_laws_toCharacter; exact dk N91.den
theorem Dz_laws_toCharacter_ok : OkD Tryz.prog 91 Dz_laws_toCharacter := by unfold Dz_laws_toCharacter; exact dk N91.den
end Go.Ab

namespace Go.Ab
open Go Go.Proofs
def laws_toSector (a0 : Sector) : Sector :=
  a0
namespace N157
theorem DD : DOk Tryz.prog (Go.Ab.DD []) := DD_nil _
theorem den (a0 : Sector)  : Den Tryz.prog 157 [.agg (eSector a0)] (.agg (eSector (laws_toSector a0))) := by
  generalize hR : laws_toSector a0 = r
  unfold laws_toSector at hR
  refine di Tryz.func157 Tryz.ntmps157 Tryz.results157 ?_
  intro c hL hc hk
  obtain ⟨hL0, _⟩ := hL
  have hw0 : bwSector a0 := Sector_lens a0 hL0
  clear hL0
  simp only [pars, Nat.zero_add]
  iterate 6 refine rS ?_
  refine AWP.ret ?_
  subst hR
  exact es
end N157
def D_laws_toSector : DF
  | [x0] => some (.agg (eSector (laws_toSector (rdG dSector x0))), false, [wG eSector dSector x0])
  | _ => none
theorem D_laws_toSector_ok : OkD Tryz.prog 157 D_laws_toSector := by unfold D_laws_toSector; exact dk N157.den
end Go.Ab

namespace Go.Ab
open Go Go.Proofs
def laws_toSectorS_b1 (a0 : (List Sector)) (i1 : Nat) (s1 : List Sector) : Except ((List Sector)) (List Sector) :=
  .ok (s1.set i1 (laws_toSector (a0.getD i1 default)))
def laws_toSectorS (a0 : (List Sector)) : (List Sector) :=
  (match loopR (laws_toSectorS_b1 a0) (a0.length - 0) 0 (List.replicate a0.length (default : Sector)) with | .error e => e | .ok s1 => s1)
namespace N92
theorem DD : DOk Tryz.prog (Go.Ab.DD [(157, dP D_laws_toSector)]) := DD_cons D_laws_toSector_ok.e <| DD_nil _
theorem dn : type_of% (@D_laws_toSector.eq_1) := by and_intros <;> intros <;> rfl
theorem den (a0 : (List Sector)) (hb0 : a0.length < 1099511627776) (hb1 : ∀ v ∈ a0, bdSector v) : Den Tryz.prog 92 [encL 3 eSector a0] (ownL 180 3 eSector (laws_toSectorS a0)) := by
  generalize hR : laws_toSectorS a0 = r
  unfold laws_toSectorS at hR
  refine di Tryz.func92 Tryz.ntmps92 Tryz.results92 ?_
  intro c hL hc hk
  obtain ⟨hL0, _⟩ := hL
  have hw0 : a0.length < 9223372036854775808 := Nat.lt_succ_of_le (lens_encL hL0).1
  have hw1 : ∀ v ∈ a0, bwSector v := fun v hv => Sector_lens v ((lens_encL hL0).2 v hv)
  clear hL0
  simp only [pars, Nat.zero_add]
  iterate 3 refine rS ?_
  refine AWP.block ?_
  generalize hz1 : loopR (laws_toSectorS_b1 a0) (a0.length - 0) 0 (List.replicate a0.length (default : Sector)) = z1 at hR
  refine AWP.range (laws_toSectorS_b1 a0) (fun i1 s1 => ⟨[(0, encL 3 eSector a0), (3, .ref 0 3 0 s1.length), (4, .int .i64 (i1 : Int))], [.arr 180 3 s1.length (fun j => eSector (s1.getD j default))]⟩) (fun i1 s1 => s1.length = (List.replicate a0.length (default : Sector)).length) (a0.length) 0 (List.replicate a0.length (default : Sector)) [0] hz1 ot wt sm ?_
  clear hz1
  intro i1 s1 hi1 hW1 hz1
  refine rS ?_
  refine AWP.cond rfl (fun hb => ?_) (fun hb => ?_)
  · have hlt1 : i1 < a0.length := ot
    rw [loopR_lt hlt1] at hz1; simp only [laws_toSectorS_b1] at hz1
    iterate 2 refine rS ?_
    exact ⟨_, [0], hlt1, wt, hz1, sm⟩
  · obtain rfl : i1 = a0.length := ot
    rw [loopR_ge (Nat.le_refl _)] at hz1; subst hz1; dsimp only at hR
    refine AWP.exit ?_; refine exitTo_here ?_
    refine rS ?_
    refine AWP.ret ?_
    subst hR
    exact es
end N92
def D_laws_toSectorS : DF
  | [x0] => some (ownL 180 3 eSector (laws_toSectorS (rdL dSector x0)), false, [wL 3 eSector dSector x0, (rdL dSector x0).length < 1099511627776, ∀ v ∈ (rdL dSector x0), bdSector v])
  | _ => none
def Dz_laws_toSectorS : DF
  | [x0] => some (ownL 180 3 eSector (laws_toSectorS (rdL dSector x0)), true, [wL 3 eSector dSector x0, (rdL dSector x0).length < 1099511627776, ∀ v ∈ (rdL dSector x0), bdSector v])
  | _ => none
theorem D_laws_toSectorS_ok : OkD Tryz.prog 92 D_laws_toSectorS := by unfold D_laws_toSectorS; exact dk N92.den
theorem Dz_laws_toSectorS_ok : OkD Tryz.prog 92 Dz_laws_toSectorS := by unfold Dz_laws_toSectorS; exact dk N92.den
end Go.Ab

namespace Go.Ab
open Go Go.Proofs
theorem laws_toSector_id (v : Sector) : laws_toSector v = v := by
  unfold laws_toSector
  rfl
end Go.Ab

namespace Go.Ab
open Go Go.Proofs
theorem laws_toSectorS_id (a : List Sector) : laws_toSectorS a = a := by
  unfold laws_toSectorS
  rw [loopR_fill (b := laws_toSectorS_b1 a) (fun i => laws_toSector (a.getD i default)) (by simp) (fun i s _ => rfl)]
  simp only [laws_toSector_id]
  exact range_getD a
end Go.Ab

namespace Go.Ab
open Go Go.Proofs
def laws_toAid (a0 : Aid) : Aid :=
  { Number := a0.Number, Name := a0.Name, At := (laws_toPoint a0.At), Height := a0.Height, Mark := (laws_toMark a0.Mark), Light := laws_toCharacter a0.Light, Sectors := (laws_toSectorS a0.Sectors), Intensity := a0.Intensity : Aid }
namespace N33
theorem DD : DOk Tryz.prog (Go.Ab.DD [(89, dP D_laws_toPoint), (90, dP D_laws_toMark), (91, dP D_laws_toCharacter), (92, dP D_laws_toSectorS)]) := DD_cons D_laws_toPoint_ok.e <| DD_cons D_laws_toMark_ok.e <| DD_cons D_laws_toCharacter_ok.e <| DD_cons D_laws_toSectorS_ok.e <| DD_nil _
theorem dn : type_of% (And.intro @D_laws_toPoint.eq_1 <| And.intro @D_laws_toMark.eq_1 <| And.intro @D_laws_toCharacter.eq_1 <| @D_laws_toSectorS.eq_1) := by and_intros <;> intros <;> rfl
theorem ol : type_of% (@laws_toSectorS_id) := @laws_toSectorS_id
theorem den (a0 : Aid) (hb0 : bdAid a0) : Den Tryz.prog 33 [.agg (eAid a0)] (.agg (eAidO (laws_toAid a0))) := by
  generalize hR : laws_toAid a0 = r
  unfold laws_toAid at hR
  refine di Tryz.func33 Tryz.ntmps33 Tryz.results33 ?_
  intro c hL hc hk
  obtain ⟨hL0, _⟩ := hL
  have hw0 : bwAid a0 := Aid_lens a0 hL0
  clear hL0
  simp only [pars, Nat.zero_add]
  iterate 11 refine rS ?_
  refine AWP.ret ?_
  subst hR
  exact es
end N33
def D_laws_toAid : DF
  | [x0] => some (.agg (eAidO (laws_toAid (rdG dAid x0))), false, [wG eAid dAid x0, bdAid (rdG dAid x0)])
  | _ => none
def Dz_laws_toAid : DF
  | [x0] => some (.agg (eAidO (laws_toAid (rdG dAid x0))), true, [wG eAid dAid x0, bdAid (rdG dAid x0)])
  | _ => none
theorem D_laws_toAid_ok : OkD Tryz.prog 33 D_laws_toAid := by unfold D_laws_toAid; exact dk N33.den
theorem Dz_laws_toAid_ok : OkD Tryz.prog 33 Dz_laws_toAid := by unfold Dz_laws_toAid; exact dk N33.den
end Go.Ab

namespace Go.Ab
open Go Go.Proofs
def laws_toAidS_b1 (a0 : (List Aid)) (i1 : Nat) (s1 : List Aid) : Except ((List Aid)) (List Aid) :=
  .ok (s1.set i1 (laws_toAid (a0.getD i1 default)))
def laws_toAidS (a0 : (List Aid)) : (List Aid) :=
  (match loopR (laws_toAidS_b1 a0) (a0.length - 0) 0 (List.replicate a0.length (default : Aid)) with | .error e => e | .ok s1 => s1)
namespace N24
theorem DD : DOk Tryz.prog (Go.Ab.DD [(33, dP D_laws_toAid)]) := DD_cons D_laws_toAid_ok.e <| DD_nil _
theorem dn : type_of% (@D_laws_toAid.eq_1) := by and_intros <;> intros <;> rfl
theorem den (a0 : (List Aid)) (hb0 : a0.length < 1099511627776) (hb1 : ∀ v ∈ a0, bdAid v) (hp0 : a0.length ≤ 1048576) : Den Tryz.prog 24 [encL 16 eAid a0] (ownL 63 16 eAidO (laws_toAidS a0)) := by
  generalize hR : laws_toAidS a0 = r
  unfold laws_toAidS at hR
  refine di Tryz.func24 Tryz.ntmps24 Tryz.results24 ?_
  intro c hL hc hk
  obtain ⟨hL0, _⟩ := hL
  have hw0 : a0.length < 9223372036854775808 := Nat.lt_succ_of_le (lens_encL hL0).1
  have hw1 : ∀ v ∈ a0, bwAid v := fun v hv => Aid_lens v ((lens_encL hL0).2 v hv)
  clear hL0
  simp only [pars, Nat.zero_add]
  iterate 2 refine rS ?_
  refine AWP.arrS 0 (fun j => eAidO ((List.replicate a0.length (default : Aid)).getD j default)) rfl zs ?_; simp only [setE]
  refine rS ?_
  refine AWP.block ?_
  generalize hz1 : loopR (laws_toAidS_b1 a0) (a0.length - 0) 0 (List.replicate a0.length (default : Aid)) = z1 at hR
  refine AWP.range (laws_toAidS_b1 a0) (fun i1 s1 => ⟨[(0, encL 16 eAid a0), (3, .ref 0 16 0 s1.length), (4, .int .i64 (i1 : Int))], [.arr 63 16 s1.length (fun j => eAidO (s1.getD j default))]⟩) (fun i1 s1 => s1.length = (List.replicate a0.length (default : Aid)).length) (a0.length) 0 (List.replicate a0.length (default : Aid)) [0] hz1 ot wt sm ?_
  clear hz1
  intro i1 s1 hi1 hW1 hz1
  refine rS ?_
  refine AWP.cond rfl (fun hb => ?_) (fun hb => ?_)
  · have hlt1 : i1 < a0.length := ot
    rw [loopR_lt hlt1] at hz1; simp only [laws_toAidS_b1] at hz1
    iterate 2 refine rS ?_
    exact ⟨_, [0], hlt1, wt, hz1, sm⟩
  · obtain rfl : i1 = a0.length := ot
    rw [loopR_ge (Nat.le_refl _)] at hz1; subst hz1; dsimp only at hR
    refine AWP.exit ?_; refine exitTo_here ?_
    refine rS ?_
    refine AWP.ret ?_
    subst hR
    exact es
end N24
def D_laws_toAidS : DF
  | [x0] => some (ownL 63 16 eAidO (laws_toAidS (rdL dAid x0)), false, [wL 16 eAid dAid x0, (rdL dAid x0).length < 1099511627776, ∀ v ∈ (rdL dAid x0), bdAid v, (rdL dAid x0).length ≤ 1048576])
  | _ => none
def Dz_laws_toAidS : DF
  | [x0] => some (ownL 63 16 eAidO (laws_toAidS (rdL dAid x0)), true, [wL 16 eAid dAid x0, (rdL dAid x0).length < 1099511627776, ∀ v ∈ (rdL dAid x0), bdAid v, (rdL dAid x0).length ≤ 1048576])
  | _ => none
theorem D_laws_toAidS_ok : OkD Tryz.prog 24 D_laws_toAidS := by unfold D_laws_toAidS; exact dk N24.den
theorem Dz_laws_toAidS_ok : OkD Tryz.prog 24 Dz_laws_toAidS := by unfold Dz_laws_toAidS; exact dk N24.den
end Go.Ab

namespace Go.Ab
open Go Go.Proofs
theorem laws_toPoint_id (v : Point) : laws_toPoint v = v := by
  unfold laws_toPoint
  rfl
end Go.Ab

namespace Go.Ab
open Go Go.Proofs
theorem laws_toMark_id (v : Mark) : laws_toMark v = v := by
  unfold laws_toMark
  rfl
end Go.Ab

namespace Go.Ab
open Go Go.Proofs
theorem laws_toCharacter_id (v : Character) : laws_toCharacter v = v := by
  unfold laws_toCharacter
  simp only [laws_toInt64S_id]
end Go.Ab

namespace Go.Ab
open Go Go.Proofs
theorem laws_toAid_id (v : Aid) : laws_toAid v = v := by
  unfold laws_toAid
  simp only [laws_toPoint_id, laws_toMark_id, laws_toCharacter_id, laws_toSectorS_id]
end Go.Ab

namespace Go.Ab
open Go Go.Proofs
theorem laws_toAidS_id (a : List Aid) : laws_toAidS a = a := by
  unfold laws_toAidS
  rw [loopR_fill (b := laws_toAidS_b1 a) (fun i => laws_toAid (a.getD i default)) (by simp) (fun i s _ => rfl)]
  simp only [laws_toAid_id]
  exact range_getD a
end Go.Ab

namespace Go.Ab
open Go Go.Proofs
def laws_eqSector (a0 : Sector) (a1 : Sector) : Bool :=
  (bif (a0.From != a1.From) then false else (bif (a0.To != a1.To) then false else (bif (a0.Color != a1.Color) then false else true)))
namespace N167
theorem DD : DOk Tryz.prog (Go.Ab.DD []) := DD_nil _
theorem den (a0 : Sector) (a1 : Sector)  : Den Tryz.prog 167 [.agg (eSector a0), .agg (eSector a1)] (.bool (laws_eqSector a0 a1)) := by
  generalize hR : laws_eqSector a0 a1 = r
  unfold laws_eqSector at hR
  refine di Tryz.func167 Tryz.ntmps167 Tryz.results167 ?_
  intro c hL hc hk
  obtain ⟨hL0, hL1, _⟩ := hL
  have hw0 : bwSector a0 := Sector_lens a0 hL0
  have hw1 : bwSector a1 := Sector_lens a1 hL1
  clear hL0 hL1
  simp only [pars, Nat.zero_add]
  iterate 2 refine rS ?_
  refine AWP.cond rfl (fun hb => ?_) (fun hb => ?_)
  · replace hR := ct hR
    refine rS ?_
    refine AWP.ret ?_
    subst hR
    exact es
  · replace hR := cf hR
    refine rS ?_
    refine AWP.cond rfl (fun hb => ?_) (fun hb => ?_)
    · replace hR := ct hR
      refine rS ?_
      refine AWP.ret ?_
      subst hR
      exact es
    · replace hR := cf hR
      refine rS ?_
      refine AWP.cond rfl (fun hb => ?_) (fun hb => ?_)
      · replace hR := ct hR
        refine rS ?_
        refine AWP.ret ?_
        subst hR
        exact es
      · replace hR := cf hR
        refine rS ?_
        refine AWP.ret ?_
        subst hR
        exact es
end N167
def D_laws_eqSector : DF
  | [x0, x1] => some (.bool (laws_eqSector (rdG dSector x0) (rdG dSector x1)), false, [wG eSector dSector x0, wG eSector dSector x1])
  | _ => none
theorem D_laws_eqSector_ok : OkD Tryz.prog 167 D_laws_eqSector := by unfold D_laws_eqSector; exact dk N167.den
end Go.Ab

namespace Go.Ab
open Go Go.Proofs
def laws_eqSectorS_b1 (a0 : (List Sector)) (a1 : (List Sector)) (i1 : Nat) (s1 : Unit) : Except (Bool) (Unit) :=
  (bif (!(laws_eqSector (a0.getD i1 default) (a1.getD i1 default))) then .error false else .ok ())
def laws_eqSectorS (a0 : (List Sector)) (a1 : (List Sector)) : Bool :=
  (bif ((a0.length : Int) != (a1.length : Int)) then false else (match loopR (laws_eqSectorS_b1 a0 a1) (a0.length - 0) 0 () with | .error e => e | .ok s1 => true))
namespace N100
theorem DD : DOk Tryz.prog (Go.Ab.DD [(167, dP D_laws_eqSector)]) := DD_cons D_laws_eqSector_ok.e <| DD_nil _
theorem dn : type_of% (@D_laws_eqSector.eq_1) := by and_intros <;> intros <;> rfl
theorem den (a0 : (List Sector)) (a1 : (List Sector))  : Den Tryz.prog 100 [encL 3 eSector a0, encL 3 eSector a1] (.bool (laws_eqSectorS a0 a1)) := by
  generalize hR : laws_eqSectorS a0 a1 = r
  unfold laws_eqSectorS at hR
  refine di Tryz.func100 Tryz.ntmps100 Tryz.results100 ?_
  intro c hL hc hk
  obtain ⟨hL0, hL1, _⟩ := hL
  have hw0 : a0.length < 9223372036854775808 := Nat.lt_succ_of_le (lens_encL hL0).1
  have hw1 : ∀ v ∈ a0, bwSector v := fun v hv => Sector_lens v ((lens_encL hL0).2 v hv)
  have hw2 : a1.length < 9223372036854775808 := Nat.lt_succ_of_le (lens_encL hL1).1
  have hw3 : ∀ v ∈ a1, bwSector v := fun v hv => Sector_lens v ((lens_encL hL1).2 v hv)
  clear hL0 hL1
  simp only [pars, Nat.zero_add]
  iterate 2 refine rS ?_
  refine AWP.cond rfl (fun hb => ?_) (fun hb => ?_)
  · replace hR := ct hR
    refine rS ?_
    refine AWP.ret ?_
    subst hR
    exact es
  · replace hR := cf hR
    refine rS ?_
    refine AWP.block ?_
    generalize hz1 : loopR (laws_eqSectorS_b1 a0 a1) (a0.length - 0) 0 () = z1 at hR
    refine AWP.range (laws_eqSectorS_b1 a0 a1) (fun i1 s1 => ⟨[(0, encL 3 eSector a0), (1, encL 3 eSector a1), (5, .int .i64 (i1 : Int))], []⟩) (fun i1 s1 => True) (a0.length) 0 () [] hz1 ot wt sm ?_
    clear hz1
    intro i1 s1 hi1 hW1 hz1
    refine rS ?_
    refine AWP.cond rfl (fun hb => ?_) (fun hb => ?_)
    · have hlt1 : i1 < a0.length := ot
      rw [loopR_lt hlt1] at hz1; simp only [laws_eqSectorS_b1] at hz1
      refine rD 8 ?_
      refine AWP.cond rfl (fun hb => ?_) (fun hb => ?_)
      · simp only [hb, cond_true] at hz1
        refine rS ?_
        refine AWP.ret ?_
        subst hz1
        dsimp only at hR
        subst hR
        exact es
      · simp only [hb, cond_false] at hz1
        refine rS ?_
        exact ⟨_, [], hlt1, wt, hz1, sm⟩
    · obtain rfl : i1 = a0.length := ot
      rw [loopR_ge (Nat.le_refl _)] at hz1; subst hz1; dsimp only at hR
      refine AWP.exit ?_; refine exitTo_here ?_
      refine rS ?_
      refine AWP.ret ?_
      subst hR
      exact es
end N100
def D_laws_eqSectorS : DF
  | [x0, x1] => some (.bool (laws_eqSectorS (rdL dSector x0) (rdL dSector x1)), false, [wL 3 eSector dSector x0, wL 3 eSector dSector x1])
  | _ => none
theorem D_laws_eqSectorS_ok : OkD Tryz.prog 100 D_laws_eqSectorS := by unfold D_laws_eqSectorS; exact dk N100.den
end Go.Ab

namespace Go.Ab
open Go Go.Proofs
def laws_eqPoint (a0 : Point) (a1 : Point) : Bool :=
  (bif (a0.X != a1.X) then false else (bif (a0.Y != a1.Y) then false else true))
namespace N97
theorem DD : DOk Tryz.prog (Go.Ab.DD []) := DD_nil _
theorem den (a0 : Point) (a1 : Point)  : Den Tryz.prog 97 [.agg (ePoint a0), .agg (ePoint a1)] (.bool (laws_eqPoint a0 a1)) := by
  generalize hR : laws_eqPoint a0 a1 = r
  unfold laws_eqPoint at hR
  refine di Tryz.func97 Tryz.ntmps97 Tryz.results97 ?_
  intro c hL hc hk
  clear hL
  simp only [pars, Nat.zero_add]
  iterate 2 refine rS ?_
  refine AWP.cond rfl (fun hb => ?_) (fun hb => ?_)
  · replace hR := ct hR
    refine rS ?_
    refine AWP.ret ?_
    subst hR
    exact es
  · replace hR := cf hR
    refine rS ?_
    refine AWP.cond rfl (fun hb => ?_) (fun hb => ?_)
    · replace hR := ct hR
      refine rS ?_
      refine AWP.ret ?_
      subst hR
      exact es
    · replace hR := cf hR
      refine rS ?_
      refine AWP.ret ?_
      subst hR
      exact es
end N97
def D_laws_eqPoint : DF
  | [x0, x1] => some (.bool (laws_eqPoint (rdG dPoint x0) (rdG dPoint x1)), false, [wG ePoint dPoint x0, wG ePoint dPoint x1])
  | _ => none
theorem D_laws_eqPoint_ok : OkD Tryz.prog 97 D_laws_eqPoint := by unfold D_laws_eqPoint; exact dk N97.den
end Go.Ab

namespace Go.Ab
open Go Go.Proofs
def laws_eqMark (a0 : Mark) (a1 : Mark) : Bool :=
  (bif (a0.Kind != a1.Kind) then false else (bif (a0.Colors != a1.Colors) then false else (bif (a0.Shape != a1.Shape) then false else (bif (a0.Topmark != a1.Topmark) then false else true))))
namespace N98
theorem DD : DOk Tryz.prog (Go.Ab.DD []) := DD_nil _
theorem den (a0 : Mark) (a1 : Mark)  : Den Tryz.prog 98 [.agg (eMark a0), .agg (eMark a1)] (.bool (laws_eqMark a0 a1)) := by
  generalize hR : laws_eqMark a0 a1 = r
  unfold laws_eqMark at hR
  refine di Tryz.func98 Tryz.ntmps98 Tryz.results98 ?_
  intro c hL hc hk
  obtain ⟨hL0, hL1, _⟩ := hL
  have hw0 : bwMark a0 := Mark_lens a0 hL0
  have hw1 : bwMark a1 := Mark_lens a1 hL1
  clear hL0 hL1
  simp only [pars, Nat.zero_add]
  iterate 2 refine rS ?_
  refine AWP.cond rfl (fun hb => ?_) (fun hb => ?_)
  · replace hR := ct hR
    refine rS ?_
    refine AWP.ret ?_
    subst hR
    exact es
  · replace hR := cf hR
    refine rS ?_
    refine AWP.cond rfl (fun hb => ?_) (fun hb => ?_)
    · replace hR := ct hR
      refine rS ?_
      refine AWP.ret ?_
      subst hR
      exact es
    · replace hR := cf hR
      refine rS ?_
      refine AWP.cond rfl (fun hb => ?_) (fun hb => ?_)
      · replace hR := ct hR
        refine rS ?_
        refine AWP.ret ?_
        subst hR
        exact es
      · replace hR := cf hR
        refine rS ?_
        refine AWP.cond rfl (fun hb => ?_) (fun hb => ?_)
        · replace hR := ct hR
          refine rS ?_
          refine AWP.ret ?_
          subst hR
          exact es
        · replace hR := cf hR
          refine rS ?_
          refine AWP.ret ?_
          subst hR
          exact es
end N98
def D_laws_eqMark : DF
  | [x0, x1] => some (.bool (laws_eqMark (rdG dMark x0) (rdG dMark x1)), false, [wG eMark dMark x0, wG eMark dMark x1])
  | _ => none
theorem D_laws_eqMark_ok : OkD Tryz.prog 98 D_laws_eqMark := by unfold D_laws_eqMark; exact dk N98.den
end Go.Ab

namespace Go.Ab
open Go Go.Proofs
def laws_eqInt64S_b1 (a0 : (List Int)) (a1 : (List Int)) (i1 : Nat) (s1 : Unit) : Except (Bool) (Unit) :=
  (bif ((a0.getD i1 default) != (a1.getD i1 default)) then .error false else .ok ())
def laws_eqInt64S (a0 : (List Int)) (a1 : (List Int)) : Bool :=
  (bif ((a0.length : Int) != (a1.length : Int)) then false else (match loopR (laws_eqInt64S_b1 a0 a1) (a0.length - 0) 0 () with | .error e => e | .ok s1 => true))
namespace N17
theorem DD : DOk Tryz.prog (Go.Ab.DD []) := DD_nil _
theorem den (a0 : (List Int)) (a1 : (List Int))  : Den Tryz.prog 17 [encL 1 eIi64 a0, encL 1 eIi64 a1] (.bool (laws_eqInt64S a0 a1)) := by
  generalize hR : laws_eqInt64S a0 a1 = r
  unfold laws_eqInt64S at hR
  refine di Tryz.func17 Tryz.ntmps17 Tryz.results17 ?_
  intro c hL hc hk
  obtain ⟨hL0, hL1, _⟩ := hL
  have hw0 : a0.length < 9223372036854775808 := Nat.lt_succ_of_le (lens_encL hL0).1
  have hw1 : a1.length < 9223372036854775808 := Nat.lt_succ_of_le (lens_encL hL1).1
  clear hL0 hL1
  simp only [pars, Nat.zero_add]
  iterate 2 refine rS ?_
  refine AWP.cond rfl (fun hb => ?_) (fun hb => ?_)
  · replace hR := ct hR
    refine rS ?_
    refine AWP.ret ?_
    subst hR
    exact es
  · replace hR := cf hR
    refine rS ?_
    refine AWP.block ?_
    generalize hz1 : loopR (laws_eqInt64S_b1 a0 a1) (a0.length - 0) 0 () = z1 at hR
    refine AWP.range (laws_eqInt64S_b1 a0 a1) (fun i1 s1 => ⟨[(0, encL 1 eIi64 a0), (1, encL 1 eIi64 a1), (5, .int .i64 (i1 : Int))], []⟩) (fun i1 s1 => True) (a0.length) 0 () [] hz1 ot wt sm ?_
    clear hz1
    intro i1 s1 hi1 hW1 hz1
    refine rS ?_
    refine AWP.cond rfl (fun hb => ?_) (fun hb => ?_)
    · have hlt1 : i1 < a0.length := ot
      rw [loopR_lt hlt1] at hz1; simp only [laws_eqInt64S_b1] at hz1
      refine rD 8 ?_
      refine AWP.cond rfl (fun hb => ?_) (fun hb => ?_)
      · simp only [hb, cond_true] at hz1
        refine rS ?_
        refine AWP.ret ?_
        subst hz1
        dsimp only at hR
        subst hR
        exact es
      · simp only [hb, cond_false] at hz1
        refine rS ?_
        exact ⟨_, [], hlt1, wt, hz1, sm⟩
    · obtain rfl : i1 = a0.length := ot
      rw [loopR_ge (Nat.le_refl _)] at hz1; subst hz1; dsimp only at hR
      refine AWP.exit ?_; refine exitTo_here ?_
      refine rS ?_
      refine AWP.ret ?_
      subst hR
      exact es
end N17
def D_laws_eqInt64S : DF
  | [x0, x1] => some (.bool (laws_eqInt64S (rdL dIi64 x0) (rdL dIi64 x1)), false, [wL 1 eIi64 dIi64 x0, wL 1 eIi64 dIi64 x1])
  | _ => none
theorem D_laws_eqInt64S_ok : OkD Tryz.prog 17 D_laws_eqInt64S := by unfold D_laws_eqInt64S; exact dk N17.den
end Go.Ab

namespace Go.Ab
open Go Go.Proofs
def laws_eqCharacter (a0 : Character) (a1 : Character) : Bool :=
  (bif (a0.Kind != a1.Kind) then false else (bif (!(laws_eqInt64S a0.Group a1.Group)) then false else (bif (a0.Letter != a1.Letter) then false else (bif (a0.Colors != a1.Colors) then false else (bif (a0.Period != a1.Period) then false else true)))))
namespace N99
theorem DD : DOk Tryz.prog (Go.Ab.DD [(17, dP D_laws_eqInt64S)]) := DD_cons D_laws_eqInt64S_ok.e <| DD_nil _
theorem dn : type_of% (@D_laws_eqInt64S.eq_1) := by and_intros <;> intros <;> rfl
theorem den (a0 : Character) (a1 : Character)  : Den Tryz.prog 99 [.agg (eCharacter a0), .agg (eCharacter a1)] (.bool (laws_eqCharacter a0 a1)) := by
  generalize hR : laws_eqCharacter a0 a1 = r
  unfold laws_eqCharacter at hR
  refine di Tryz.func99 Tryz.ntmps99 Tryz.results99 ?_
  intro c hL hc hk
  obtain ⟨hL0, hL1, _⟩ := hL
  have hw0 : bwCharacter a0 := Character_lens a0 hL0
  have hw1 : bwCharacter a1 := Character_lens a1 hL1
  clear hL0 hL1
  simp only [pars, Nat.zero_add]
  iterate 2 refine rS ?_
  refine AWP.cond rfl (fun hb => ?_) (fun hb => ?_)
  · replace hR := ct hR
    refine rS ?_
    refine AWP.ret ?_
    subst hR
    exact es
  · replace hR := cf hR
    refine rS ?_
    refine AWP.cond rfl (fun hb => ?_) (fun hb => ?_)
    · replace hR := ct hR
      refine rS ?_
      refine AWP.ret ?_
      subst hR
      exact es
    · replace hR := cf hR
      refine rS ?_
      refine AWP.cond rfl (fun hb => ?_) (fun hb => ?_)
      · replace hR := ct hR
        refine rS ?_
        refine AWP.ret ?_
        subst hR
        exact es
      · replace hR := cf hR
        refine rS ?_
        refine AWP.cond rfl (fun hb => ?_) (fun hb => ?_)
        · replace hR := ct hR
          refine rS ?_
          refine AWP.ret ?_
          subst hR
          exact es
        · replace hR := cf hR
          refine rS ?_
          refine AWP.cond rfl (fun hb => ?_) (fun hb => ?_)
          · replace hR := ct hR
            refine rS ?_
            refine AWP.ret ?_
            subst hR
            exact es
          · replace hR := cf hR
            refine rS ?_
            refine AWP.ret ?_
            subst hR
            exact es
end N99
def D_laws_eqCharacter : DF
  | [x0, x1] => some (.bool (laws_eqCharacter (rdG dCharacter x0) (rdG dCharacter x1)), false, [wG eCharacter dCharacter x0, wG eCharacter dCharacter x1])
  | _ => none
theorem D_laws_eqCharacter_ok : OkD Tryz.prog 99 D_laws_eqCharacter := by unfold D_laws_eqCharacter; exact dk N99.den
end Go.Ab

namespace Go.Ab
open Go Go.Proofs
def laws_eqAid (a0 : Aid) (a1 : Aid) : Bool :=
  (bif (a0.Number != a1.Number) then false else (bif (a0.Name != a1.Name) then false else (bif (!(laws_eqPoint a0.At a1.At)) then false else (bif (a0.Height != a1.Height) then false else (bif (!(laws_eqMark a0.Mark a1.Mark)) then false else (bif (!(laws_eqCharacter a0.Light a1.Light)) then false else (bif (!(laws_eqSectorS a0.Sectors a1.Sectors)) then false else (bif (a0.Intensity != a1.Intensity) then false else true))))))))
namespace N35
theorem DD : DOk Tryz.prog (Go.Ab.DD [(100, dP D_laws_eqSectorS), (97, dP D_laws_eqPoint), (98, dP D_laws_eqMark), (99, dP D_laws_eqCharacter)]) := DD_cons D_laws_eqSectorS_ok.e <| DD_cons D_laws_eqPoint_ok.e <| DD_cons D_laws_eqMark_ok.e <| DD_cons D_laws_eqCharacter_ok.e <| DD_nil _
theorem dn : type_of% (And.intro @D_laws_eqSectorS.eq_1 <| And.intro @D_laws_eqPoint.eq_1 <| And.intro @D_laws_eqMark.eq_1 <| @D_laws_eqCharacter.eq_1) := by and_intros <;> intros <;> rfl
theorem den (a0 : Aid) (a1 : Aid)  : Den Tryz.prog 35 [.agg (eAid a0), .agg (eAid a1)] (.bool (laws_eqAid a0 a1)) := by
  generalize hR : laws_eqAid a0 a1 = r
  unfold laws_eqAid at hR
  refine di Tryz.func35 Tryz.ntmps35 Tryz.results35 ?_
  intro c hL hc hk
  obtain ⟨hL0, hL1, _⟩ := hL
  have hw0 : bwAid a0 := Aid_lens a0 hL0
  have hw1 : bwAid a1 := Aid_lens a1 hL1
  clear hL0 hL1
  simp only [pars, Nat.zero_add]
  iterate 2 refine rS ?_
  refine AWP.cond rfl (fun hb => ?_) (fun hb => ?_)
  · replace hR := ct hR
    refine rS ?_
    refine AWP.ret ?_
    subst hR
    exact es
  · replace hR := cf hR
    refine rS ?_
    refine AWP.cond rfl (fun hb => ?_) (fun hb => ?_)
    · replace hR := ct hR
      refine rS ?_
      refine AWP.ret ?_
      subst hR
      exact es
    · replace hR := cf hR
      refine rS ?_
      refine AWP.cond rfl (fun hb => ?_) (fun hb => ?_)
      · replace hR := ct hR
        refine rS ?_
        refine AWP.ret ?_
        subst hR
        exact es
      · replace hR := cf hR
        refine rS ?_
        refine AWP.cond rfl (fun hb => ?_) (fun hb => ?_)
        · replace hR := ct hR
          refine rS ?_
          refine AWP.ret ?_
          subst hR
          exact es
        · replace hR := cf hR
          refine rS ?_
          refine AWP.cond rfl (fun hb => ?_) (fun hb => ?_)
          · replace hR := ct hR
            refine rS ?_
            refine AWP.ret ?_
            subst hR
            exact es
          · replace hR := cf hR
            refine rS ?_
            refine AWP.cond rfl (fun hb => ?_) (fun hb => ?_)
            · replace hR := ct hR
              refine rS ?_
              refine AWP.ret ?_
              subst hR
              exact es
            · replace hR := cf hR
              refine rS ?_
              refine AWP.cond rfl (fun hb => ?_) (fun hb => ?_)
              · replace hR := ct hR
                refine rS ?_
                refine AWP.ret ?_
                subst hR
                exact es
              · replace hR := cf hR
                refine rS ?_
                refine AWP.cond rfl (fun hb => ?_) (fun hb => ?_)
                · replace hR := ct hR
                  refine rS ?_
                  refine AWP.ret ?_
                  subst hR
                  exact es
                · replace hR := cf hR
                  refine rS ?_
                  refine AWP.ret ?_
                  subst hR
                  exact es
end N35
def D_laws_eqAid : DF
  | [x0, x1] => some (.bool (laws_eqAid (rdG dAid x0) (rdG dAid x1)), false, [wG eAid dAid x0, wG eAid dAid x1])
  | _ => none
theorem D_laws_eqAid_ok : OkD Tryz.prog 35 D_laws_eqAid := by unfold D_laws_eqAid; exact dk N35.den
end Go.Ab

namespace Go.Ab
open Go Go.Proofs
def laws_eqAidS_b1 (a0 : (List Aid)) (a1 : (List Aid)) (i1 : Nat) (s1 : Unit) : Except (Bool) (Unit) :=
  (bif (!(laws_eqAid (a0.getD i1 default) (a1.getD i1 default))) then .error false else .ok ())
def laws_eqAidS (a0 : (List Aid)) (a1 : (List Aid)) : Bool :=
  (bif ((a0.length : Int) != (a1.length : Int)) then false else (match loopR (laws_eqAidS_b1 a0 a1) (a0.length - 0) 0 () with | .error e => e | .ok s1 => true))
namespace N27
theorem DD : DOk Tryz.prog (Go.Ab.DD [(35, dP D_laws_eqAid)]) := DD_cons D_laws_eqAid_ok.e <| DD_nil _
theorem dn : type_of% (@D_laws_eqAid.eq_1) := by and_intros <;> intros <;> rfl
theorem den (a0 : (List Aid)) (a1 : (List Aid))  : Den Tryz.prog 27 [encL 16 eAid a0, encL 16 eAid a1] (.bool (laws_eqAidS a0 a1)) := by
  generalize hR : laws_eqAidS a0 a1 = r
  unfold laws_eqAidS at hR
  refine di Tryz.func27 Tryz.ntmps27 Tryz.results27 ?_
  intro c hL hc hk
  obtain ⟨hL0, hL1, _⟩ := hL
  have hw0 : a0.length < 9223372036854775808 := Nat.lt_succ_of_le (lens_encL hL0).1
  have hw1 : ∀ v ∈ a0, bwAid v := fun v hv => Aid_lens v ((lens_encL hL0).2 v hv)
  have hw2 : a1.length < 9223372036854775808 := Nat.lt_succ_of_le (lens_encL hL1).1
  have hw3 : ∀ v ∈ a1, bwAid v := fun v hv => Aid_lens v ((lens_encL hL1).2 v hv)
  clear hL0 hL1
  simp only [pars, Nat.zero_add]
  iterate 2 refine rS ?_
  refine AWP.cond rfl (fun hb => ?_) (fun hb => ?_)
  · replace hR := ct hR
    refine rS ?_
    refine AWP.ret ?_
    subst hR
    exact es
  · replace hR := cf hR
    refine rS ?_
    refine AWP.block ?_
    generalize hz1 : loopR (laws_eqAidS_b1 a0 a1) (a0.length - 0) 0 () = z1 at hR
    refine AWP.range (laws_eqAidS_b1 a0 a1) (fun i1 s1 => ⟨[(0, encL 16 eAid a0), (1, encL 16 eAid a1), (5, .int .i64 (i1 : Int))], []⟩) (fun i1 s1 => True) (a0.length) 0 () [] hz1 ot wt sm ?_
    clear hz1
    intro i1 s1 hi1 hW1 hz1
    refine rS ?_
    refine AWP.cond rfl (fun hb => ?_) (fun hb => ?_)
    · have hlt1 : i1 < a0.length := ot
      rw [loopR_lt hlt1] at hz1; simp only [laws_eqAidS_b1] at hz1
      refine rD 8 ?_
      refine AWP.cond rfl (fun hb => ?_) (fun hb => ?_)
      · simp only [hb, cond_true] at hz1
        refine rS ?_
        refine AWP.ret ?_
        subst hz1
        dsimp only at hR
        subst hR
        exact es
      · simp only [hb, cond_false] at hz1
        refine rS ?_
        exact ⟨_, [], hlt1, wt, hz1, sm⟩
    · obtain rfl : i1 = a0.length := ot
      rw [loopR_ge (Nat.le_refl _)] at hz1; subst hz1; dsimp only at hR
      refine AWP.exit ?_; refine exitTo_here ?_
      refine rS ?_
      refine AWP.ret ?_
      subst hR
      exact es
end N27
def D_laws_eqAidS : DF
  | [x0, x1] => some (.bool (laws_eqAidS (rdL dAid x0) (rdL dAid x1)), false, [wL 16 eAid dAid x0, wL 16 eAid dAid x1])
  | _ => none
theorem D_laws_eqAidS_ok : OkD Tryz.prog 27 D_laws_eqAidS := by unfold D_laws_eqAidS; exact dk N27.den
end Go.Ab

namespace Go.Ab
open Go Go.Proofs
theorem laws_eqPoint_dec (a b : Point) : laws_eqPoint a b = decide (a = b) := by
  unfold laws_eqPoint
  skip
  by_cases h : a = b
  · subst h; simp
  · rw [decide_eq_false h]
    cases a; cases b
    simp only [Point.mk.injEq] at h
    simp only [bne_iff_ne, Bool.cond_eq_ite, ite_eq_right_iff]
    (repeat' split) <;> simp_all
end Go.Ab

namespace Go.Ab
open Go Go.Proofs
theorem laws_eqMark_dec (a b : Mark) : laws_eqMark a b = decide (a = b) := by
  unfold laws_eqMark
  skip
  by_cases h : a = b
  · subst h; simp
  · rw [decide_eq_false h]
    cases a; cases b
    simp only [Mark.mk.injEq] at h
    simp only [bne_iff_ne, Bool.cond_eq_ite, ite_eq_right_iff]
    (repeat' split) <;> simp_all
end Go.Ab

namespace Go.Ab
open Go Go.Proofs
theorem laws_eqInt64S_dec (a b : List Int) : laws_eqInt64S a b = decide (a = b) := by
  unfold laws_eqInt64S
  by_cases hl : a.length = b.length
  · have h1 : ((a.length : Int) != (b.length : Int)) = false := by simp [hl]
    rw [h1, cond_false, loopR_any (b := laws_eqInt64S_b1 a b) (fun j => !decide (a.getD j default = b.getD j default)) false (fun j u _ _ => by simp only [laws_eqInt64S_b1, ned])]
    simp only [Nat.sub_zero, Nat.zero_add]
    rw [any_ne a b hl]
    by_cases h : a = b <;> simp [h]
  · have h1 : ((a.length : Int) != (b.length : Int)) = true := by simp; omega
    have h2 : ¬ a = b := fun e => hl (by rw [e])
    rw [h1, cond_true, decide_eq_false h2]
end Go.Ab

namespace Go.Ab
open Go Go.Proofs
theorem laws_eqCharacter_dec (a b : Character) : laws_eqCharacter a b = decide (a = b) := by
  unfold laws_eqCharacter
  simp only [laws_eqInt64S_dec]
  by_cases h : a = b
  · subst h; simp
  · rw [decide_eq_false h]
    cases a; cases b
    simp only [Character.mk.injEq] at h
    simp only [bne_iff_ne, Bool.cond_eq_ite, ite_eq_right_iff]
    (repeat' split) <;> simp_all
end Go.Ab

namespace Go.Ab
open Go Go.Proofs
theorem laws_eqSector_dec (a b : Sector) : laws_eqSector a b = decide (a = b) := by
  unfold laws_eqSector
  skip
  by_cases h : a = b
  · subst h; simp
  · rw [decide_eq_false h]
    cases a; cases b
    simp only [Sector.mk.injEq] at h
    simp only [bne_iff_ne, Bool.cond_eq_ite, ite_eq_right_iff]
    (repeat' split) <;> simp_all
end Go.Ab

namespace Go.Ab
open Go Go.Proofs
theorem laws_eqSectorS_dec (a b : List Sector) : laws_eqSectorS a b = decide (a = b) := by
  unfold laws_eqSectorS
  by_cases hl : a.length = b.length
  · have h1 : ((a.length : Int) != (b.length : Int)) = false := by simp [hl]
    rw [h1, cond_false, loopR_any (b := laws_eqSectorS_b1 a b) (fun j => !decide (a.getD j default = b.getD j default)) false (fun j u _ _ => by simp only [laws_eqSectorS_b1, laws_eqSector_dec])]
    simp only [Nat.sub_zero, Nat.zero_add]
    rw [any_ne a b hl]
    by_cases h : a = b <;> simp [h]
  · have h1 : ((a.length : Int) != (b.length : Int)) = true := by simp; omega
    have h2 : ¬ a = b := fun e => hl (by rw [e])
    rw [h1, cond_true, decide_eq_false h2]
end Go.Ab

namespace Go.Ab
open Go Go.Proofs
theorem laws_eqAid_dec (a b : Aid) : laws_eqAid a b = decide (a = b) := by
  unfold laws_eqAid
  simp only [laws_eqPoint_dec, laws_eqMark_dec, laws_eqCharacter_dec, laws_eqSectorS_dec]
  by_cases h : a = b
  · subst h; simp
  · rw [decide_eq_false h]
    cases a; cases b
    simp only [Aid.mk.injEq] at h
    simp only [bne_iff_ne, Bool.cond_eq_ite, ite_eq_right_iff]
    (repeat' split) <;> simp_all
end Go.Ab

namespace Go.Ab
open Go Go.Proofs
theorem laws_eqAidS_dec (a b : List Aid) : laws_eqAidS a b = decide (a = b) := by
  unfold laws_eqAidS
  by_cases hl : a.length = b.length
  · have h1 : ((a.length : Int) != (b.length : Int)) = false := by simp [hl]
    rw [h1, cond_false, loopR_any (b := laws_eqAidS_b1 a b) (fun j => !decide (a.getD j default = b.getD j default)) false (fun j u _ _ => by simp only [laws_eqAidS_b1, laws_eqAid_dec])]
    simp only [Nat.sub_zero, Nat.zero_add]
    rw [any_ne a b hl]
    by_cases h : a = b <;> simp [h]
  · have h1 : ((a.length : Int) != (b.length : Int)) = true := by simp; omega
    have h2 : ¬ a = b := fun e => hl (by rw [e])
    rw [h1, cond_true, decide_eq_false h2]
end Go.Ab

namespace Go.Ab
open Go Go.Proofs
def laws_szMark (a0 : Mark) (a1 : Int) : Int :=
  (bif decide ((IntKind.wrap .i64 (a1 - (a0.Colors.length : Int))) < 0) then (-1) else (bif decide ((IntKind.wrap .i64 ((IntKind.wrap .i64 (a1 - (a0.Colors.length : Int))) - (a0.Shape.length : Int))) < 0) then (-1) else (bif decide ((IntKind.wrap .i64 ((IntKind.wrap .i64 ((IntKind.wrap .i64 (a1 - (a0.Colors.length : Int))) - (a0.Shape.length : Int))) - (a0.Topmark.length : Int))) < 0) then (-1) else IntKind.wrap .i64 ((IntKind.wrap .i64 ((IntKind.wrap .i64 (a1 - (a0.Colors.length : Int))) - (a0.Shape.length : Int))) - (a0.Topmark.length : Int)))))
namespace N84
theorem DD : DOk Tryz.prog (Go.Ab.DD []) := DD_nil _
theorem den (a0 : Mark) (a1 : Int)  : Den Tryz.prog 84 [.agg (eMark a0), .int .i64 a1] (.int .i64 (laws_szMark a0 a1)) := by
  generalize hR : laws_szMark a0 a1 = r
  unfold laws_szMark at hR
  refine di Tryz.func84 Tryz.ntmps84 Tryz.results84 ?_
  intro c hL hc hk
  obtain ⟨hL0, hL1, _⟩ := hL
  have hw0 : bwMark a0 := Mark_lens a0 hL0
  clear hL0 hL1
  simp only [pars, Nat.zero_add]
  iterate 3 refine rS ?_
  refine AWP.cond rfl (fun hb => ?_) (fun hb => ?_)
  · replace hR := ct hR
    refine rS ?_
    refine AWP.ret ?_
    subst hR
    exact es
  · replace hR := cf hR
    iterate 2 refine rS ?_
    refine AWP.cond rfl (fun hb => ?_) (fun hb => ?_)
    · replace hR := ct hR
      refine rS ?_
      refine AWP.ret ?_
      subst hR
      exact es
    · replace hR := cf hR
      iterate 2 refine rS ?_
      refine AWP.cond rfl (fun hb => ?_) (fun hb => ?_)
      · replace hR := ct hR
        refine rS ?_
        refine AWP.ret ?_
        subst hR
        exact es
      · replace hR := cf hR
        refine rS ?_
        refine AWP.ret ?_
        subst hR
        exact es
end N84
def D_laws_szMark : DF
  | [x0, x1] => some (.int .i64 (laws_szMark (rdG dMark x0) (rdI x1)), false, [wG eMark dMark x0, wI .i64 x1])
  | _ => none
theorem D_laws_szMark_ok : OkD Tryz.prog 84 D_laws_szMark := by unfold D_laws_szMark; exact dk N84.den
end Go.Ab

namespace Go.Ab
open Go Go.Proofs
def laws_szInt64S (a0 : (List Int)) (a1 : Int) : Int :=
  (bif decide ((IntKind.wrap .i64 (a1 - (a0.length : Int))) < 0) then (-1) else IntKind.wrap .i64 (a1 - (a0.length : Int)))
namespace N146
theorem DD : DOk Tryz.prog (Go.Ab.DD []) := DD_nil _
theorem den (a0 : (List Int)) (a1 : Int)  : Den Tryz.prog 146 [encL 1 eIi64 a0, .int .i64 a1] (.int .i64 (laws_szInt64S a0 a1)) := by
  generalize hR : laws_szInt64S a0 a1 = r
  unfold laws_szInt64S at hR
  refine di Tryz.func146 Tryz.ntmps146 Tryz.results146 ?_
  intro c hL hc hk
  obtain ⟨hL0, hL1, _⟩ := hL
  have hw0 : a0.length < 9223372036854775808 := Nat.lt_succ_of_le (lens_encL hL0).1
  clear hL0 hL1
  simp only [pars, Nat.zero_add]
  iterate 3 refine rS ?_
  refine AWP.cond rfl (fun hb => ?_) (fun hb => ?_)
  · replace hR := ct hR
    refine rS ?_
    refine AWP.ret ?_
    subst hR
    exact es
  · replace hR := cf hR
    refine rS ?_
    refine AWP.ret ?_
    subst hR
    exact es
end N146
def D_laws_szInt64S : DF
  | [x0, x1] => some (.int .i64 (laws_szInt64S (rdL dIi64 x0) (rdI x1)), false, [wL 1 eIi64 dIi64 x0, wI .i64 x1])
  | _ => none
theorem D_laws_szInt64S_ok : OkD Tryz.prog 146 D_laws_szInt64S := by unfold D_laws_szInt64S; exact dk N146.den
end Go.Ab

namespace Go.Ab
open Go Go.Proofs
theorem laws_szInt64S_facts (a : List Int) (n : Int) (h0 : -1 ≤ n) (h1 : n ≤ 1048576) (hl : a.length < 9223372036854775808) :
    -1 ≤ laws_szInt64S a n ∧ laws_szInt64S a n ≤ n ∧ (¬ laws_szInt64S a n < 0 → a.length ≤ 1048576) := by
  unfold laws_szInt64S
  rw [show IntKind.wrap .i64 (n - (a.length : Int)) = n - a.length from by rw [IntKind.wrap_i64]; omega]
  by_cases c : n - (a.length : Int) < 0
  · rw [decide_eq_true c]; exact ⟨by simp, by simpa using h0, fun h => absurd (by simp) h⟩
  · rw [decide_eq_false c]; simp only [cond_false]; omega
end Go.Ab

namespace Go.Ab
open Go Go.Proofs
def laws_szCharacter (a0 : Character) (a1 : Int) : Int :=
  (bif decide ((laws_szInt64S a0.Group a1) < 0) then (-1) else (bif decide ((IntKind.wrap .i64 ((laws_szInt64S a0.Group a1) - (a0.Letter.length : Int))) < 0) then (-1) else (bif decide ((IntKind.wrap .i64 ((IntKind.wrap .i64 ((laws_szInt64S a0.Group a1) - (a0.Letter.length : Int))) - (a0.Colors.length : Int))) < 0) then (-1) else IntKind.wrap .i64 ((IntKind.wrap .i64 ((laws_szInt64S a0.Group a1) - (a0.Letter.length : Int))) - (a0.Colors.length : Int)))))
namespace N85
theorem DD : DOk Tryz.prog (Go.Ab.DD [(146, dP D_laws_szInt64S)]) := DD_cons D_laws_szInt64S_ok.e <| DD_nil _
theorem dn : type_of% (@D_laws_szInt64S.eq_1) := by and_intros <;> intros <;> rfl
theorem den (a0 : Character) (a1 : Int)  : Den Tryz.prog 85 [.agg (eCharacter a0), .int .i64 a1] (.int .i64 (laws_szCharacter a0 a1)) := by
  generalize hR : laws_szCharacter a0 a1 = r
  unfold laws_szCharacter at hR
  refine di Tryz.func85 Tryz.ntmps85 Tryz.results85 ?_
  intro c hL hc hk
  obtain ⟨hL0, hL1, _⟩ := hL
  have hw0 : bwCharacter a0 := Character_lens a0 hL0
  clear hL0 hL1
  simp only [pars, Nat.zero_add]
  iterate 3 refine rS ?_
  refine AWP.cond rfl (fun hb => ?_) (fun hb => ?_)
  · replace hR := ct hR
    refine rS ?_
    refine AWP.ret ?_
    subst hR
    exact es
  · replace hR := cf hR
    iterate 2 refine rS ?_
    refine AWP.cond rfl (fun hb => ?_) (fun hb => ?_)
    · replace hR := ct hR
      refine rS ?_
      refine AWP.ret ?_
      subst hR
      exact es
    · replace hR := cf hR
      iterate 2 refine rS ?_
      refine AWP.cond rfl (fun hb => ?_) (fun hb => ?_)
      · replace hR := ct hR
        refine rS ?_
        refine AWP.ret ?_
        subst hR
        exact es
      · replace hR := cf hR
        refine rS ?_
        refine AWP.ret ?_
        subst hR
        exact es
end N85
def D_laws_szCharacter : DF
  | [x0, x1] => some (.int .i64 (laws_szCharacter (rdG dCharacter x0) (rdI x1)), false, [wG eCharacter dCharacter x0, wI .i64 x1])
  | _ => none
theorem D_laws_szCharacter_ok : OkD Tryz.prog 85 D_laws_szCharacter := by unfold D_laws_szCharacter; exact dk N85.den
end Go.Ab

namespace Go.Ab
open Go Go.Proofs
def laws_szSector (a0 : Sector) (a1 : Int) : Int :=
  (bif decide ((IntKind.wrap .i64 (a1 - (a0.Color.length : Int))) < 0) then (-1) else IntKind.wrap .i64 (a1 - (a0.Color.length : Int)))
namespace N147
theorem DD : DOk Tryz.prog (Go.Ab.DD []) := DD_nil _
theorem den (a0 : Sector) (a1 : Int)  : Den Tryz.prog 147 [.agg (eSector a0), .int .i64 a1] (.int .i64 (laws_szSector a0 a1)) := by
  generalize hR : laws_szSector a0 a1 = r
  unfold laws_szSector at hR
  refine di Tryz.func147 Tryz.ntmps147 Tryz.results147 ?_
  intro c hL hc hk
  obtain ⟨hL0, hL1, _⟩ := hL
  have hw0 : bwSector a0 := Sector_lens a0 hL0
  clear hL0 hL1
  simp only [pars, Nat.zero_add]
  iterate 3 refine rS ?_
  refine AWP.cond rfl (fun hb => ?_) (fun hb => ?_)
  · replace hR := ct hR
    refine rS ?_
    refine AWP.ret ?_
    subst hR
    exact es
  · replace hR := cf hR
    refine rS ?_
    refine AWP.ret ?_
    subst hR
    exact es
end N147
def D_laws_szSector : DF
  | [x0, x1] => some (.int .i64 (laws_szSector (rdG dSector x0) (rdI x1)), false, [wG eSector dSector x0, wI .i64 x1])
  | _ => none
theorem D_laws_szSector_ok : OkD Tryz.prog 147 D_laws_szSector := by unfold D_laws_szSector; exact dk N147.den
end Go.Ab

namespace Go.Ab
open Go Go.Proofs
theorem laws_szSector_facts (x : Sector) (n : Int) (h0 : -1 ≤ n) (h1 : n ≤ 1048576) (hx : bwSector x) : -1 ≤ laws_szSector x n ∧ laws_szSector x n ≤ n ∧ (¬ laws_szSector x n < 0 → smSector x) := by
  have b0 := hx
  unfold laws_szSector
  have b0' : x.Color.length < 9223372036854775808 := b0
  rw [show IntKind.wrap .i64 (n - (x.Color.length : Int)) = n - (x.Color.length : Int) from by rw [IntKind.wrap_i64]; omega]
  by_cases c0 : n - (x.Color.length : Int) < 0
  · rw [decide_eq_true c0]; exact ⟨by simp, by simpa using h0, fun h => absurd (by simp) h⟩
  rw [decide_eq_false c0]
  simp only [cond_false]
  exact ⟨by omega, by omega, fun _ => (show x.Color.length ≤ 1048576 by omega)⟩
end Go.Ab

namespace Go.Ab
open Go Go.Proofs
def laws_szSectorS_b1 (a0 : (List Sector)) (a1 : Int) (i1 : Nat) (s1 : Int) : Except (Int) (Int) :=
  (bif decide ((laws_szSector (a0.getD i1 default) s1) < 0) then .error (-1) else .ok (laws_szSector (a0.getD i1 default) s1))
def laws_szSectorS (a0 : (List Sector)) (a1 : Int) : Int :=
  (bif decide ((IntKind.wrap .i64 (a1 - (a0.length : Int))) < 0) then (-1) else (match loopR (laws_szSectorS_b1 a0 a1) (a0.length - 0) 0 (IntKind.wrap .i64 (a1 - (a0.length : Int))) with | .error e => e | .ok s1 => s1))
namespace N86
theorem DD : DOk Tryz.prog (Go.Ab.DD [(147, dP D_laws_szSector)]) := DD_cons D_laws_szSector_ok.e <| DD_nil _
theorem dn : type_of% (@D_laws_szSector.eq_1) := by and_intros <;> intros <;> rfl
theorem den (a0 : (List Sector)) (a1 : Int)  : Den Tryz.prog 86 [encL 3 eSector a0, .int .i64 a1] (.int .i64 (laws_szSectorS a0 a1)) := by
  generalize hR : laws_szSectorS a0 a1 = r
  unfold laws_szSectorS at hR
  refine di Tryz.func86 Tryz.ntmps86 Tryz.results86 ?_
  intro c hL hc hk
  obtain ⟨hL0, hL1, _⟩ := hL
  have hw0 : a0.length < 9223372036854775808 := Nat.lt_succ_of_le (lens_encL hL0).1
  have hw1 : ∀ v ∈ a0, bwSector v := fun v hv => Sector_lens v ((lens_encL hL0).2 v hv)
  clear hL0 hL1
  simp only [pars, Nat.zero_add]
  iterate 3 refine rS ?_
  refine AWP.cond rfl (fun hb => ?_) (fun hb => ?_)
  · replace hR := ct hR
    refine rS ?_
    refine AWP.ret ?_
    subst hR
    exact es
  · replace hR := cf hR
    refine rS ?_
    refine AWP.block ?_
    generalize hz1 : loopR (laws_szSectorS_b1 a0 a1) (a0.length - 0) 0 (IntKind.wrap .i64 (a1 - (a0.length : Int))) = z1 at hR
    refine AWP.range (laws_szSectorS_b1 a0 a1) (fun i1 s1 => ⟨[(0, encL 3 eSector a0), (1, .int .i64 s1), (5, .int .i64 (i1 : Int))], []⟩) (fun i1 s1 => True) (a0.length) 0 (IntKind.wrap .i64 (a1 - (a0.length : Int))) [] hz1 ot wt sm ?_
    clear hz1
    intro i1 s1 hi1 hW1 hz1
    refine rS ?_
    refine AWP.cond rfl (fun hb => ?_) (fun hb => ?_)
    · have hlt1 : i1 < a0.length := ot
      rw [loopR_lt hlt1] at hz1; simp only [laws_szSectorS_b1] at hz1
      iterate 2 refine rS ?_
      refine AWP.cond rfl (fun hb => ?_) (fun hb => ?_)
      · simp only [hb, cond_true] at hz1
        refine rS ?_
        refine AWP.ret ?_
        subst hz1
        dsimp only at hR
        subst hR
        exact es
      · simp only [hb, cond_false] at hz1
        refine rS ?_
        exact ⟨_, [], hlt1, wt, hz1, sm⟩
    · obtain rfl : i1 = a0.length := ot
      rw [loopR_ge (Nat.le_refl _)] at hz1; subst hz1; dsimp only at hR
      refine AWP.exit ?_; refine exitTo_here ?_
      refine rS ?_
      refine AWP.ret ?_
      subst hR
      exact es
end N86
def D_laws_szSectorS : DF
  | [x0, x1] => some (.int .i64 (laws_szSectorS (rdL dSector x0) (rdI x1)), false, [wL 3 eSector dSector x0, wI .i64 x1])
  | _ => none
theorem D_laws_szSectorS_ok : OkD Tryz.prog 86 D_laws_szSectorS := by unfold D_laws_szSectorS; exact dk N86.den
end Go.Ab

namespace Go.Ab
open Go Go.Proofs
theorem laws_szMark_facts (x : Mark) (n : Int) (h0 : -1 ≤ n) (h1 : n ≤ 1048576) (hx : bwMark x) : -1 ≤ laws_szMark x n ∧ laws_szMark x n ≤ n ∧ (¬ laws_szMark x n < 0 → smMark x) := by
  obtain ⟨b0, b1, b2⟩ := hx
  unfold laws_szMark
  have b0' : x.Colors.length < 9223372036854775808 := b0
  rw [show IntKind.wrap .i64 (n - (x.Colors.length : Int)) = n - (x.Colors.length : Int) from by rw [IntKind.wrap_i64]; omega]
  by_cases c0 : n - (x.Colors.length : Int) < 0
  · rw [decide_eq_true c0]; exact ⟨by simp, by simpa using h0, fun h => absurd (by simp) h⟩
  rw [decide_eq_false c0]
  simp only [cond_false]
  have b1' : x.Shape.length < 9223372036854775808 := b1
  rw [show IntKind.wrap .i64 (n - (x.Colors.length : Int) - (x.Shape.length : Int)) = n - (x.Colors.length : Int) - (x.Shape.length : Int) from by rw [IntKind.wrap_i64]; omega]
  by_cases c1 : n - (x.Colors.length : Int) - (x.Shape.length : Int) < 0
  · rw [decide_eq_true c1]; exact ⟨by simp, by simpa using h0, fun h => absurd (by simp) h⟩
  rw [decide_eq_false c1]
  simp only [cond_false]
  have b2' : x.Topmark.length < 9223372036854775808 := b2
  rw [show IntKind.wrap .i64 (n - (x.Colors.length : Int) - (x.Shape.length : Int) - (x.Topmark.length : Int)) = n - (x.Colors.length : Int) - (x.Shape.length : Int) - (x.Topmark.length : Int) from by rw [IntKind.wrap_i64]; omega]
  by_cases c2 : n - (x.Colors.length : Int) - (x.Shape.length : Int) - (x.Topmark.length : Int) < 0
  · rw [decide_eq_true c2]; exact ⟨by simp, by simpa using h0, fun h => absurd (by simp) h⟩
  rw [decide_eq_false c2]
  simp only [cond_false]
  exact ⟨by omega, by omega, fun _ => ⟨by omega, by omega, by omega⟩⟩
end Go.Ab

namespace Go.Ab
open Go Go.Proofs
theorem laws_szCharacter_facts (x : Character) (n : Int) (h0 : -1 ≤ n) (h1 : n ≤ 1048576) (hx : bwCharacter x) : -1 ≤ laws_szCharacter x n ∧ laws_szCharacter x n ≤ n ∧ (¬ laws_szCharacter x n < 0 → smCharacter x) := by
  obtain ⟨b0, b1, b2⟩ := hx
  unfold laws_szCharacter
  have f0 := laws_szInt64S_facts x.Group (n) (by omega) (by omega) b0
  by_cases c0 : laws_szInt64S x.Group (n) < 0
  · rw [decide_eq_true c0]; exact ⟨by simp, by simpa using h0, fun h => absurd (by simp) h⟩
  rw [decide_eq_false c0]
  simp only [cond_false]
  have b1' : x.Letter.length < 9223372036854775808 := b1
  rw [show IntKind.wrap .i64 (laws_szInt64S x.Group (n) - (x.Letter.length : Int)) = laws_szInt64S x.Group (n) - (x.Letter.length : Int) from by rw [IntKind.wrap_i64]; omega]
  by_cases c1 : laws_szInt64S x.Group (n) - (x.Letter.length : Int) < 0
  · rw [decide_eq_true c1]; exact ⟨by simp, by simpa using h0, fun h => absurd (by simp) h⟩
  rw [decide_eq_false c1]
  simp only [cond_false]
  have b2' : x.Colors.length < 9223372036854775808 := b2
  rw [show IntKind.wrap .i64 (laws_szInt64S x.Group (n) - (x.Letter.length : Int) - (x.Colors.length : Int)) = laws_szInt64S x.Group (n) - (x.Letter.length : Int) - (x.Colors.length : Int) from by rw [IntKind.wrap_i64]; omega]
  by_cases c2 : laws_szInt64S x.Group (n) - (x.Letter.length : Int) - (x.Colors.length : Int) < 0
  · rw [decide_eq_true c2]; exact ⟨by simp, by simpa using h0, fun h => absurd (by simp) h⟩
  rw [decide_eq_false c2]
  simp only [cond_false]
  exact ⟨by omega, by omega, fun _ => ⟨f0.2.2 c0, by omega, by omega⟩⟩
end Go.Ab

namespace Go.Ab
open Go Go.Proofs
theorem laws_szSectorS_facts (a : List Sector) (n : Int) (h0 : -1 ≤ n) (h1 : n ≤ 1048576) (hl : a.length < 9223372036854775808) (hx : ∀ v ∈ a, bwSector v) :
    -1 ≤ laws_szSectorS a n ∧ laws_szSectorS a n ≤ n ∧ (¬ laws_szSectorS a n < 0 → a.length ≤ 1048576 ∧ ∀ v ∈ a, smSector v) := by
  unfold laws_szSectorS
  rw [show IntKind.wrap .i64 (n - (a.length : Int)) = n - a.length from by rw [IntKind.wrap_i64]; omega]
  by_cases c : n - (a.length : Int) < 0
  · rw [decide_eq_true c]; exact ⟨by simp, by simpa using h0, fun h => absurd (by simp) h⟩
  · rw [decide_eq_false c]
    simp only [cond_false]
    split
    · rename_i e h
      obtain ⟨j, t, _, _, h3⟩ := loopR_error h
      simp only [laws_szSectorS_b1] at h3
      have : e = -1 := by
        cases hq : decide (laws_szSector (a.getD j default) t < 0) with
        | true => rw [hq] at h3; simpa using h3.symm
        | false => rw [hq] at h3; simp at h3
      omega
    · rename_i s h
      have := loopR_inv (b := laws_szSectorS_b1 a n) (fun i s => -1 ≤ s ∧ s ≤ n - a.length ∧ ∀ j, j < i → smSector (a.getD j default)) ⟨by omega, by omega, by intro j hj; omega⟩ (by
        intro j u v h1 h2 ⟨h3, h4, h5⟩ h6
        simp only [laws_szSectorS_b1] at h6
        have hb : bwSector (a.getD j default) := bd_getD hx (by decide) j
        have hf := laws_szSector_facts (a.getD j default) u h3 (by omega) hb
        cases hq : decide (laws_szSector (a.getD j default) u < 0) with
        | true => rw [hq] at h6; simp at h6
        | false =>
          rw [hq] at h6
          simp only [cond_false, Except.ok.injEq] at h6
          subst h6
          refine ⟨by omega, by omega, fun q hq2 => ?_⟩
          by_cases hqj : q = j
          · subst hqj; exact hf.2.2 (of_decide_eq_false hq)
          · exact h5 q (by omega)) h
      refine ⟨by omega, by omega, fun _ => ⟨by omega, fun v hv => ?_⟩⟩
      obtain ⟨i, hi, rfl⟩ := List.getElem_of_mem hv
      have := this.2.2 i (by omega)
      simpa [List.getD_eq_getElem?_getD, hi] using this
end Go.Ab

namespace Go.Ab
open Go Go.Proofs
def laws_szAid (a0 : Aid) (a1 : Int) : Int :=
  (bif decide ((IntKind.wrap .i64 (a1 - (a0.Name.length : Int))) < 0) then (-1) else (bif decide ((laws_szMark a0.Mark (IntKind.wrap .i64 (a1 - (a0.Name.length : Int)))) < 0) then (-1) else (bif decide ((laws_szCharacter a0.Light (laws_szMark a0.Mark (IntKind.wrap .i64 (a1 - (a0.Name.length : Int))))) < 0) then (-1) else (bif decide ((laws_szSectorS a0.Sectors (laws_szCharacter a0.Light (laws_szMark a0.Mark (IntKind.wrap .i64 (a1 - (a0.Name.length : Int)))))) < 0) then (-1) else (laws_szSectorS a0.Sectors (laws_szCharacter a0.Light (laws_szMark a0.Mark (IntKind.wrap .i64 (a1 - (a0.Name.length : Int))))))))))
namespace N31
theorem DD : DOk Tryz.prog (Go.Ab.DD [(84, dP D_laws_szMark), (85, dP D_laws_szCharacter), (86, dP D_laws_szSectorS)]) := DD_cons D_laws_szMark_ok.e <| DD_cons D_laws_szCharacter_ok.e <| DD_cons D_laws_szSectorS_ok.e <| DD_nil _
theorem dn : type_of% (And.intro @D_laws_szMark.eq_1 <| And.intro @D_laws_szCharacter.eq_1 <| @D_laws_szSectorS.eq_1) := by and_intros <;> intros <;> rfl
theorem den (a0 : Aid) (a1 : Int)  : Den Tryz.prog 31 [.agg (eAid a0), .int .i64 a1] (.int .i64 (laws_szAid a0 a1)) := by
  generalize hR : laws_szAid a0 a1 = r
  unfold laws_szAid at hR
  refine di Tryz.func31 Tryz.ntmps31 Tryz.results31 ?_
  intro c hL hc hk
  obtain ⟨hL0, hL1, _⟩ := hL
  have hw0 : bwAid a0 := Aid_lens a0 hL0
  clear hL0 hL1
  simp only [pars, Nat.zero_add]
  iterate 3 refine rS ?_
  refine AWP.cond rfl (fun hb => ?_) (fun hb => ?_)
  · replace hR := ct hR
    refine rS ?_
    refine AWP.ret ?_
    subst hR
    exact es
  · replace hR := cf hR
    iterate 2 refine rS ?_
    refine AWP.cond rfl (fun hb => ?_) (fun hb => ?_)
    · replace hR := ct hR
      refine rS ?_
      refine AWP.ret ?_
      subst hR
      exact es
    · replace hR := cf hR
      iterate 2 refine rS ?_
      refine AWP.cond rfl (fun hb => ?_) (fun hb => ?_)
      · replace hR := ct hR
        refine rS ?_
        refine AWP.ret ?_
        subst hR
        exact es
      · replace hR := cf hR
        iterate 2 refine rS ?_
        refine AWP.cond rfl (fun hb => ?_) (fun hb => ?_)
        · replace hR := ct hR
          refine rS ?_
          refine AWP.ret ?_
          subst hR
          exact es
        · replace hR := cf hR
          refine rS ?_
          refine AWP.ret ?_
          subst hR
          exact es
end N31
def D_laws_szAid : DF
  | [x0, x1] => some (.int .i64 (laws_szAid (rdG dAid x0) (rdI x1)), false, [wG eAid dAid x0, wI .i64 x1])
  | _ => none
theorem D_laws_szAid_ok : OkD Tryz.prog 31 D_laws_szAid := by unfold D_laws_szAid; exact dk N31.den
end Go.Ab

namespace Go.Ab
open Go Go.Proofs
theorem laws_szAid_facts (x : Aid) (n : Int) (h0 : -1 ≤ n) (h1 : n ≤ 1048576) (hx : bwAid x) : -1 ≤ laws_szAid x n ∧ laws_szAid x n ≤ n ∧ (¬ laws_szAid x n < 0 → smAid x) := by
  obtain ⟨b0, b1, b2, b3⟩ := hx
  unfold laws_szAid
  have b0' : x.Name.length < 9223372036854775808 := b0
  rw [show IntKind.wrap .i64 (n - (x.Name.length : Int)) = n - (x.Name.length : Int) from by rw [IntKind.wrap_i64]; omega]
  by_cases c0 : n - (x.Name.length : Int) < 0
  · rw [decide_eq_true c0]; exact ⟨by simp, by simpa using h0, fun h => absurd (by simp) h⟩
  rw [decide_eq_false c0]
  simp only [cond_false]
  have f1 := laws_szMark_facts x.Mark (n - (x.Name.length : Int)) (by omega) (by omega) b1
  by_cases c1 : laws_szMark x.Mark (n - (x.Name.length : Int)) < 0
  · rw [decide_eq_true c1]; exact ⟨by simp, by simpa using h0, fun h => absurd (by simp) h⟩
  rw [decide_eq_false c1]
  simp only [cond_false]
  have f2 := laws_szCharacter_facts x.Light (laws_szMark x.Mark (n - (x.Name.length : Int))) (by omega) (by omega) b2
  by_cases c2 : laws_szCharacter x.Light (laws_szMark x.Mark (n - (x.Name.length : Int))) < 0
  · rw [decide_eq_true c2]; exact ⟨by simp, by simpa using h0, fun h => absurd (by simp) h⟩
  rw [decide_eq_false c2]
  simp only [cond_false]
  have f3 := laws_szSectorS_facts x.Sectors (laws_szCharacter x.Light (laws_szMark x.Mark (n - (x.Name.length : Int)))) (by omega) (by omega) b3.1 b3.2
  by_cases c3 : laws_szSectorS x.Sectors (laws_szCharacter x.Light (laws_szMark x.Mark (n - (x.Name.length : Int)))) < 0
  · rw [decide_eq_true c3]; exact ⟨by simp, by simpa using h0, fun h => absurd (by simp) h⟩
  rw [decide_eq_false c3]
  simp only [cond_false]
  exact ⟨by omega, by omega, fun _ => ⟨by omega, f1.2.2 c1, f2.2.2 c2, f3.2.2 c3⟩⟩
end Go.Ab

namespace Go.Ab
open Go Go.Proofs
def laws_szAidS_b1 (a0 : (List Aid)) (a1 : Int) (i1 : Nat) (s1 : Int) : Except (Int) (Int) :=
  (bif decide ((laws_szAid (a0.getD i1 default) s1) < 0) then .error (-1) else .ok (laws_szAid (a0.getD i1 default) s1))
def laws_szAidS (a0 : (List Aid)) (a1 : Int) : Int :=
  (bif decide ((IntKind.wrap .i64 (a1 - (a0.length : Int))) < 0) then (-1) else (match loopR (laws_szAidS_b1 a0 a1) (a0.length - 0) 0 (IntKind.wrap .i64 (a1 - (a0.length : Int))) with | .error e => e | .ok s1 => s1))
namespace N22
theorem DD : DOk Tryz.prog (Go.Ab.DD [(31, dP D_laws_szAid)]) := DD_cons D_laws_szAid_ok.e <| DD_nil _
theorem dn : type_of% (@D_laws_szAid.eq_1) := by and_intros <;> intros <;> rfl
theorem den (a0 : (List Aid)) (a1 : Int)  : Den Tryz.prog 22 [encL 16 eAid a0, .int .i64 a1] (.int .i64 (laws_szAidS a0 a1)) := by
  generalize hR : laws_szAidS a0 a1 = r
  unfold laws_szAidS at hR
  refine di Tryz.func22 Tryz.ntmps22 Tryz.results22 ?_
  intro c hL hc hk
  obtain ⟨hL0, hL1, _⟩ := hL
  have hw0 : a0.length < 9223372036854775808 := Nat.lt_succ_of_le (lens_encL hL0).1
  have hw1 : ∀ v ∈ a0, bwAid v := fun v hv => Aid_lens v ((lens_encL hL0).2 v hv)
  clear hL0 hL1
  simp only [pars, Nat.zero_add]
  iterate 3 refine rS ?_
  refine AWP.cond rfl (fun hb => ?_) (fun hb => ?_)
  · replace hR := ct hR
    refine rS ?_
    refine AWP.ret ?_
    subst hR
    exact es
  · replace hR := cf hR
    refine rS ?_
    refine AWP.block ?_
    generalize hz1 : loopR (laws_szAidS_b1 a0 a1) (a0.length - 0) 0 (IntKind.wrap .i64 (a1 - (a0.length : Int))) = z1 at hR
    refine AWP.range (laws_szAidS_b1 a0 a1) (fun i1 s1 => ⟨[(0, encL 16 eAid a0), (1, .int .i64 s1), (5, .int .i64 (i1 : Int))], []⟩) (fun i1 s1 => True) (a0.length) 0 (IntKind.wrap .i64 (a1 - (a0.length : Int))) [] hz1 ot wt sm ?_
    clear hz1
    intro i1 s1 hi1 hW1 hz1
    refine rS ?_
    refine AWP.cond rfl (fun hb => ?_) (fun hb => ?_)
    · have hlt1 : i1 < a0.length := ot
      rw [loopR_lt hlt1] at hz1; simp only [laws_szAidS_b1] at hz1
      iterate 2 refine rS ?_
      refine AWP.cond rfl (fun hb => ?_) (fun hb => ?_)
      · simp only [hb, cond_true] at hz1
        refine rS ?_
        refine AWP.ret ?_
        subst hz1
        dsimp only at hR
        subst hR
        exact es
      · simp only [hb, cond_false] at hz1
        refine rS ?_
        exact ⟨_, [], hlt1, wt, hz1, sm⟩
    · obtain rfl : i1 = a0.length := ot
      rw [loopR_ge (Nat.le_refl _)] at hz1; subst hz1; dsimp only at hR
      refine AWP.exit ?_; refine exitTo_here ?_
      refine rS ?_
      refine AWP.ret ?_
      subst hR
      exact es
end N22
def D_laws_szAidS : DF
  | [x0, x1] => some (.int .i64 (laws_szAidS (rdL dAid x0) (rdI x1)), false, [wL 16 eAid dAid x0, wI .i64 x1])
  | _ => none
theorem D_laws_szAidS_ok : OkD Tryz.prog 22 D_laws_szAidS := by unfold D_laws_szAidS; exact dk N22.den
end Go.Ab

namespace Go.Ab
open Go Go.Proofs
theorem laws_szAidS_facts (a : List Aid) (n : Int) (h0 : -1 ≤ n) (h1 : n ≤ 1048576) (hl : a.length < 9223372036854775808) (hx : ∀ v ∈ a, bwAid v) :
    -1 ≤ laws_szAidS a n ∧ laws_szAidS a n ≤ n ∧ (¬ laws_szAidS a n < 0 → a.length ≤ 1048576 ∧ ∀ v ∈ a, smAid v) := by
  unfold laws_szAidS
  rw [show IntKind.wrap .i64 (n - (a.length : Int)) = n - a.length from by rw [IntKind.wrap_i64]; omega]
  by_cases c : n - (a.length : Int) < 0
  · rw [decide_eq_true c]; exact ⟨by simp, by simpa using h0, fun h => absurd (by simp) h⟩
  · rw [decide_eq_false c]
    simp only [cond_false]
    split
    · rename_i e h
      obtain ⟨j, t, _, _, h3⟩ := loopR_error h
      simp only [laws_szAidS_b1] at h3
      have : e = -1 := by
        cases hq : decide (laws_szAid (a.getD j default) t < 0) with
        | true => rw [hq] at h3; simpa using h3.symm
        | false => rw [hq] at h3; simp at h3
      omega
    · rename_i s h
      have := loopR_inv (b := laws_szAidS_b1 a n) (fun i s => -1 ≤ s ∧ s ≤ n - a.length ∧ ∀ j, j < i → smAid (a.getD j default)) ⟨by omega, by omega, by intro j hj; omega⟩ (by
        intro j u v h1 h2 ⟨h3, h4, h5⟩ h6
        simp only [laws_szAidS_b1] at h6
        have hb : bwAid (a.getD j default) := bd_getD hx (by decide) j
        have hf := laws_szAid_facts (a.getD j default) u h3 (by omega) hb
        cases hq : decide (laws_szAid (a.getD j default) u < 0) with
        | true => rw [hq] at h6; simp at h6
        | false =>
          rw [hq] at h6
          simp only [cond_false, Except.ok.injEq] at h6
          subst h6
          refine ⟨by omega, by omega, fun q hq2 => ?_⟩
          by_cases hqj : q = j
          · subst hqj; exact hf.2.2 (of_decide_eq_false hq)
          · exact h5 q (by omega)) h
      refine ⟨by omega, by omega, fun _ => ⟨by omega, fun v hv => ?_⟩⟩
      obtain ⟨i, hi, rfl⟩ := List.getElem_of_mem hv
      have := this.2.2 i (by omega)
      simpa [List.getD_eq_getElem?_getD, hi] using this
end Go.Ab

namespace Go.Ab
open Go Go.Proofs
def laws_toNotice (a0 : Notice) : Notice :=
  { Number := a0.Number, Day := a0.Day, Kind := a0.Kind, Target := a0.Target, Aid := laws_toAid a0.Aid : Notice }
namespace N52
theorem DD : DOk Tryz.prog (Go.Ab.DD [(33, dP D_laws_toAid)]) := DD_cons D_laws_toAid_ok.e <| DD_nil _
theorem dn : type_of% (@D_laws_toAid.eq_1) := by and_intros <;> intros <;> rfl
theorem den (a0 : Notice) (hb0 : bdNotice a0) : Den Tryz.prog 52 [.agg (eNotice a0)] (.agg (eNoticeO (laws_toNotice a0))) := by
  generalize hR : laws_toNotice a0 = r
  unfold laws_toNotice at hR
  refine di Tryz.func52 Tryz.ntmps52 Tryz.results52 ?_
  intro c hL hc hk
  obtain ⟨hL0, _⟩ := hL
  have hw0 : bwNotice a0 := Notice_lens a0 hL0
  clear hL0
  simp only [pars, Nat.zero_add]
  iterate 8 refine rS ?_
  refine AWP.ret ?_
  subst hR
  exact es
end N52
def D_laws_toNotice : DF
  | [x0] => some (.agg (eNoticeO (laws_toNotice (rdG dNotice x0))), false, [wG eNotice dNotice x0, bdNotice (rdG dNotice x0)])
  | _ => none
def Dz_laws_toNotice : DF
  | [x0] => some (.agg (eNoticeO (laws_toNotice (rdG dNotice x0))), true, [wG eNotice dNotice x0, bdNotice (rdG dNotice x0)])
  | _ => none
theorem D_laws_toNotice_ok : OkD Tryz.prog 52 D_laws_toNotice := by unfold D_laws_toNotice; exact dk N52.den
theorem Dz_laws_toNotice_ok : OkD Tryz.prog 52 Dz_laws_toNotice := by unfold Dz_laws_toNotice; exact dk N52.den
end Go.Ab
