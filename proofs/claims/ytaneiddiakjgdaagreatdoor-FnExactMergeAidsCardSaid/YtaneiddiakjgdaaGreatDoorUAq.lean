/- A part of a proof: walks of functions and lemmas of our own. No conditions. -/
import Derived.Test.YtaneiddiakjgdaaGreatDoorUAl
import Derived.Test.YtaneiddiakjgdaaGreatDoorUAj
import Derived.Test.YtaneiddiakjgdaaGreatDoorRows
set_option linter.unusedSectionVars false
set_option linter.unusedVariables false
set_option linter.unusedSimpArgs false
set_option maxHeartbeats 1000000
namespace Go.Ab
open Go Go.Proofs
def smMark (v : Mark) : Prop := v.Colors.length ≤ 1048576 ∧ v.Shape.length ≤ 1048576 ∧ v.Topmark.length ≤ 1048576
theorem smMark_bd (v : Mark) (h : smMark v) : bdMark v := ⟨Nat.lt_of_le_of_lt h.1 (by decide), Nat.lt_of_le_of_lt h.2.1 (by decide), Nat.lt_of_le_of_lt h.2.2 (by decide)⟩
def smCharacter (v : Character) : Prop := v.Group.length ≤ 1048576 ∧ v.Letter.length ≤ 1048576 ∧ v.Colors.length ≤ 1048576
theorem smCharacter_bd (v : Character) (h : smCharacter v) : bdCharacter v := ⟨Nat.lt_of_le_of_lt h.1 (by decide), Nat.lt_of_le_of_lt h.2.1 (by decide), Nat.lt_of_le_of_lt h.2.2 (by decide)⟩
def smSector (v : Sector) : Prop := v.Color.length ≤ 1048576
theorem smSector_bd (v : Sector) (h : smSector v) : bdSector v := Nat.lt_of_le_of_lt h (by decide)
def smAid (v : Aid) : Prop := v.Name.length ≤ 1048576 ∧ smMark v.Mark ∧ smCharacter v.Light ∧ (v.Sectors.length ≤ 1048576 ∧ ∀ y ∈ v.Sectors, smSector y)
theorem smAid_bd (v : Aid) (h : smAid v) : bdAid v := ⟨Nat.lt_of_le_of_lt h.1 (by decide), smMark_bd _ h.2.1, smCharacter_bd _ h.2.2.1, ⟨Nat.lt_of_le_of_lt h.2.2.2.1 (by decide), fun y hy => smSector_bd _ (h.2.2.2.2 y hy)⟩⟩
end Go.Ab

namespace Go.Ab
open Go Go.Proofs Go.Deep Go.ChangeShapes Go.WideShapes Go.ChangeAt Go.RowKit
set_option maxRecDepth 100000
theorem rdT47 : Rd Tryz.prog 47 ePoint := by
 intro H enc W base sp hd fuel cs x h
 obtain ⟨hl, hf⟩ := rd_fields Tryz.underlying47 h
 have e0 : Tryz.prog.cellsOf 47 = 2 := by kernel_rfl
 rw [e0] at hl
 obtain ⟨n0, y0, g0⟩ := hf 0 _ rfl
 have c0 : Tryz.prog.cellsOf 2 = 1 := by kernel_rfl
 obtain ⟨v0, r0, o0⟩ := (rd_int (k := .i64) Tryz.underlying2) g0
 replace r0 : RepL W (fun _ => False) ([.int .i64 v0]) noMap ((cs.drop 0).take (Tryz.prog.cellsOf 2)) [] := r0
 replace o0 : ∀ u ∈ (cs.drop 0).take (Tryz.prog.cellsOf 2), u.oneCell' = true := o0
 rw [c0] at r0 o0
 obtain ⟨n1, y1, g1⟩ := hf 1 _ rfl
 have c1 : Tryz.prog.cellsOf 2 = 1 := by kernel_rfl
 obtain ⟨v1, r1, o1⟩ := (rd_int (k := .i64) Tryz.underlying2) g1
 replace r1 : RepL W (fun _ => False) ([.int .i64 v1]) noMap ((cs.drop 1).take (Tryz.prog.cellsOf 2)) [] := r1
 replace o1 : ∀ u ∈ (cs.drop 1).take (Tryz.prog.cellsOf 2), u.oneCell' = true := o1
 rw [c1] at r1 o1
 refine ⟨⟨v0, v1⟩, ?_, ?_⟩
 ·exact split_rep (o := 0) (k := 1) r0 (split_rep (o := 1) (k := 1) r1 (end_rep (o := 2) (by omega)))
 ·exact split_one (o := 0) (k := 1) o0 (split_one (o := 1) (k := 1) o1 (end_one (o := 2) (by omega)))
theorem rdT49 : Rd Tryz.prog 49 eMark := by
 intro H enc W base sp hd fuel cs x h
 obtain ⟨hl, hf⟩ := rd_fields Tryz.underlying49 h
 have e0 : Tryz.prog.cellsOf 49 = 4 := by kernel_rfl
 rw [e0] at hl
 obtain ⟨n0, y0, g0⟩ := hf 0 _ rfl
 have c0 : Tryz.prog.cellsOf 2 = 1 := by kernel_rfl
 obtain ⟨v0, r0, o0⟩ := (rd_int (k := .i64) Tryz.underlying2) g0
 replace r0 : RepL W (fun _ => False) ([.int .i64 v0]) noMap ((cs.drop 0).take (Tryz.prog.cellsOf 2)) [] := r0
 replace o0 : ∀ u ∈ (cs.drop 0).take (Tryz.prog.cellsOf 2), u.oneCell' = true := o0
 rw [c0] at r0 o0
 obtain ⟨n1, y1, g1⟩ := hf 1 _ rfl
 have c1 : Tryz.prog.cellsOf 9 = 1 := by kernel_rfl
 obtain ⟨v1, r1, o1⟩ := (rd_str Tryz.underlying9) g1
 replace r1 : RepL W (fun _ => False) ([.str v1]) noMap ((cs.drop 1).take (Tryz.prog.cellsOf 9)) [] := r1
 replace o1 : ∀ u ∈ (cs.drop 1).take (Tryz.prog.cellsOf 9), u.oneCell' = true := o1
 rw [c1] at r1 o1
 obtain ⟨n2, y2, g2⟩ := hf 2 _ rfl
 have c2 : Tryz.prog.cellsOf 9 = 1 := by kernel_rfl
 obtain ⟨v2, r2, o2⟩ := (rd_str Tryz.underlying9) g2
 replace r2 : RepL W (fun _ => False) ([.str v2]) noMap ((cs.drop 2).take (Tryz.prog.cellsOf 9)) [] := r2
 replace o2 : ∀ u ∈ (cs.drop 2).take (Tryz.prog.cellsOf 9), u.oneCell' = true := o2
 rw [c2] at r2 o2
 obtain ⟨n3, y3, g3⟩ := hf 3 _ rfl
 have c3 : Tryz.prog.cellsOf 9 = 1 := by kernel_rfl
 obtain ⟨v3, r3, o3⟩ := (rd_str Tryz.underlying9) g3
 replace r3 : RepL W (fun _ => False) ([.str v3]) noMap ((cs.drop 3).take (Tryz.prog.cellsOf 9)) [] := r3
 replace o3 : ∀ u ∈ (cs.drop 3).take (Tryz.prog.cellsOf 9), u.oneCell' = true := o3
 rw [c3] at r3 o3
 refine ⟨⟨v0, v1, v2, v3⟩, ?_, ?_⟩
 ·exact split_rep (o := 0) (k := 1) r0 (split_rep (o := 1) (k := 1) r1 (split_rep (o := 2) (k := 1) r2 (split_rep (o := 3) (k := 1) r3 (end_rep (o := 4) (by omega)))))
 ·exact split_one (o := 0) (k := 1) o0 (split_one (o := 1) (k := 1) o1 (split_one (o := 2) (k := 1) o2 (split_one (o := 3) (k := 1) o3 (end_one (o := 4) (by omega)))))
theorem rdT24 : Rd Tryz.prog 24 (fun l : List Int => [encL 1 eIi64 l]) := rd_slice Tryz.underlying24 (by kernel_rfl) (by decide) (rd_int (k := .i64) Tryz.underlying2)
theorem rdT51 : Rd Tryz.prog 51 eCharacter := by
 intro H enc W base sp hd fuel cs x h
 obtain ⟨hl, hf⟩ := rd_fields Tryz.underlying51 h
 have e0 : Tryz.prog.cellsOf 51 = 5 := by kernel_rfl
 rw [e0] at hl
 obtain ⟨n0, y0, g0⟩ := hf 0 _ rfl
 have c0 : Tryz.prog.cellsOf 2 = 1 := by kernel_rfl
 obtain ⟨v0, r0, o0⟩ := (rd_int (k := .i64) Tryz.underlying2) g0
 replace r0 : RepL W (fun _ => False) ([.int .i64 v0]) noMap ((cs.drop 0).take (Tryz.prog.cellsOf 2)) [] := r0
 replace o0 : ∀ u ∈ (cs.drop 0).take (Tryz.prog.cellsOf 2), u.oneCell' = true := o0
 rw [c0] at r0 o0
 obtain ⟨n1, y1, g1⟩ := hf 1 _ rfl
 have c1 : Tryz.prog.cellsOf 24 = 1 := by kernel_rfl
 obtain ⟨v1, r1, o1⟩ := rdT24 g1
 replace r1 : RepL W (fun _ => False) ([encL 1 eIi64 v1]) noMap ((cs.drop 1).take (Tryz.prog.cellsOf 24)) [] := r1
 replace o1 : ∀ u ∈ (cs.drop 1).take (Tryz.prog.cellsOf 24), u.oneCell' = true := o1
 rw [c1] at r1 o1
 obtain ⟨n2, y2, g2⟩ := hf 2 _ rfl
 have c2 : Tryz.prog.cellsOf 9 = 1 := by kernel_rfl
 obtain ⟨v2, r2, o2⟩ := (rd_str Tryz.underlying9) g2
 replace r2 : RepL W (fun _ => False) ([.str v2]) noMap ((cs.drop 2).take (Tryz.prog.cellsOf 9)) [] := r2
 replace o2 : ∀ u ∈ (cs.drop 2).take (Tryz.prog.cellsOf 9), u.oneCell' = true := o2
 rw [c2] at r2 o2
 obtain ⟨n3, y3, g3⟩ := hf 3 _ rfl
 have c3 : Tryz.prog.cellsOf 9 = 1 := by kernel_rfl
 obtain ⟨v3, r3, o3⟩ := (rd_str Tryz.underlying9) g3
 replace r3 : RepL W (fun _ => False) ([.str v3]) noMap ((cs.drop 3).take (Tryz.prog.cellsOf 9)) [] := r3
 replace o3 : ∀ u ∈ (cs.drop 3).take (Tryz.prog.cellsOf 9), u.oneCell' = true := o3
 rw [c3] at r3 o3
 obtain ⟨n4, y4, g4⟩ := hf 4 _ rfl
 have c4 : Tryz.prog.cellsOf 2 = 1 := by kernel_rfl
 obtain ⟨v4, r4, o4⟩ := (rd_int (k := .i64) Tryz.underlying2) g4
 replace r4 : RepL W (fun _ => False) ([.int .i64 v4]) noMap ((cs.drop 4).take (Tryz.prog.cellsOf 2)) [] := r4
 replace o4 : ∀ u ∈ (cs.drop 4).take (Tryz.prog.cellsOf 2), u.oneCell' = true := o4
 rw [c4] at r4 o4
 refine ⟨⟨v0, v1, v2, v3, v4⟩, ?_, ?_⟩
 ·exact split_rep (o := 0) (k := 1) r0 (split_rep (o := 1) (k := 1) r1 (split_rep (o := 2) (k := 1) r2 (split_rep (o := 3) (k := 1) r3 (split_rep (o := 4) (k := 1) r4 (end_rep (o := 5) (by omega))))))
 ·exact split_one (o := 0) (k := 1) o0 (split_one (o := 1) (k := 1) o1 (split_one (o := 2) (k := 1) o2 (split_one (o := 3) (k := 1) o3 (split_one (o := 4) (k := 1) o4 (end_one (o := 5) (by omega))))))
theorem rdT185 : Rd Tryz.prog 185 eSector := by
 intro H enc W base sp hd fuel cs x h
 obtain ⟨hl, hf⟩ := rd_fields Tryz.underlying185 h
 have e0 : Tryz.prog.cellsOf 185 = 3 := by kernel_rfl
 rw [e0] at hl
 obtain ⟨n0, y0, g0⟩ := hf 0 _ rfl
 have c0 : Tryz.prog.cellsOf 2 = 1 := by kernel_rfl
 obtain ⟨v0, r0, o0⟩ := (rd_int (k := .i64) Tryz.underlying2) g0
 replace r0 : RepL W (fun _ => False) ([.int .i64 v0]) noMap ((cs.drop 0).take (Tryz.prog.cellsOf 2)) [] := r0
 replace o0 : ∀ u ∈ (cs.drop 0).take (Tryz.prog.cellsOf 2), u.oneCell' = true := o0
 rw [c0] at r0 o0
 obtain ⟨n1, y1, g1⟩ := hf 1 _ rfl
 have c1 : Tryz.prog.cellsOf 2 = 1 := by kernel_rfl
 obtain ⟨v1, r1, o1⟩ := (rd_int (k := .i64) Tryz.underlying2) g1
 replace r1 : RepL W (fun _ => False) ([.int .i64 v1]) noMap ((cs.drop 1).take (Tryz.prog.cellsOf 2)) [] := r1
 replace o1 : ∀ u ∈ (cs.drop 1).take (Tryz.prog.cellsOf 2), u.oneCell' = true := o1
 rw [c1] at r1 o1
 obtain ⟨n2, y2, g2⟩ := hf 2 _ rfl
 have c2 : Tryz.prog.cellsOf 9 = 1 := by kernel_rfl
 obtain ⟨v2, r2, o2⟩ := (rd_str Tryz.underlying9) g2
 replace r2 : RepL W (fun _ => False) ([.str v2]) noMap ((cs.drop 2).take (Tryz.prog.cellsOf 9)) [] := r2
 replace o2 : ∀ u ∈ (cs.drop 2).take (Tryz.prog.cellsOf 9), u.oneCell' = true := o2
 rw [c2] at r2 o2
 refine ⟨⟨v0, v1, v2⟩, ?_, ?_⟩
 ·exact split_rep (o := 0) (k := 1) r0 (split_rep (o := 1) (k := 1) r1 (split_rep (o := 2) (k := 1) r2 (end_rep (o := 3) (by omega))))
 ·exact split_one (o := 0) (k := 1) o0 (split_one (o := 1) (k := 1) o1 (split_one (o := 2) (k := 1) o2 (end_one (o := 3) (by omega))))
theorem rdT52 : Rd Tryz.prog 52 (fun l : List Sector => [encL 3 eSector l]) := rd_slice Tryz.underlying52 (by kernel_rfl) (by decide) rdT185
theorem rdT54 : Rd Tryz.prog 54 eAid := by
 intro H enc W base sp hd fuel cs x h
 obtain ⟨hl, hf⟩ := rd_fields Tryz.underlying54 h
 have e0 : Tryz.prog.cellsOf 54 = 16 := by kernel_rfl
 rw [e0] at hl
 obtain ⟨n0, y0, g0⟩ := hf 0 _ rfl
 have c0 : Tryz.prog.cellsOf 2 = 1 := by kernel_rfl
 obtain ⟨v0, r0, o0⟩ := (rd_int (k := .i64) Tryz.underlying2) g0
 replace r0 : RepL W (fun _ => False) ([.int .i64 v0]) noMap ((cs.drop 0).take (Tryz.prog.cellsOf 2)) [] := r0
 replace o0 : ∀ u ∈ (cs.drop 0).take (Tryz.prog.cellsOf 2), u.oneCell' = true := o0
 rw [c0] at r0 o0
 obtain ⟨n1, y1, g1⟩ := hf 1 _ rfl
 have c1 : Tryz.prog.cellsOf 9 = 1 := by kernel_rfl
 obtain ⟨v1, r1, o1⟩ := (rd_str Tryz.underlying9) g1
 replace r1 : RepL W (fun _ => False) ([.str v1]) noMap ((cs.drop 1).take (Tryz.prog.cellsOf 9)) [] := r1
 replace o1 : ∀ u ∈ (cs.drop 1).take (Tryz.prog.cellsOf 9), u.oneCell' = true := o1
 rw [c1] at r1 o1
 obtain ⟨n2, y2, g2⟩ := hf 2 _ rfl
 have c2 : Tryz.prog.cellsOf 47 = 2 := by kernel_rfl
 obtain ⟨v2, r2, o2⟩ := rdT47 g2
 replace r2 : RepL W (fun _ => False) (ePoint v2) noMap ((cs.drop 2).take (Tryz.prog.cellsOf 47)) [] := r2
 replace o2 : ∀ u ∈ (cs.drop 2).take (Tryz.prog.cellsOf 47), u.oneCell' = true := o2
 rw [c2] at r2 o2
 obtain ⟨n3, y3, g3⟩ := hf 3 _ rfl
 have c3 : Tryz.prog.cellsOf 2 = 1 := by kernel_rfl
 obtain ⟨v3, r3, o3⟩ := (rd_int (k := .i64) Tryz.underlying2) g3
 replace r3 : RepL W (fun _ => False) ([.int .i64 v3]) noMap ((cs.drop 4).take (Tryz.prog.cellsOf 2)) [] := r3
 replace o3 : ∀ u ∈ (cs.drop 4).take (Tryz.prog.cellsOf 2), u.oneCell' = true := o3
 rw [c3] at r3 o3
 obtain ⟨n4, y4, g4⟩ := hf 4 _ rfl
 have c4 : Tryz.prog.cellsOf 49 = 4 := by kernel_rfl
 obtain ⟨v4, r4, o4⟩ := rdT49 g4
 replace r4 : RepL W (fun _ => False) (eMark v4) noMap ((cs.drop 5).take (Tryz.prog.cellsOf 49)) [] := r4
 replace o4 : ∀ u ∈ (cs.drop 5).take (Tryz.prog.cellsOf 49), u.oneCell' = true := o4
 rw [c4] at r4 o4
 obtain ⟨n5, y5, g5⟩ := hf 5 _ rfl
 have c5 : Tryz.prog.cellsOf 51 = 5 := by kernel_rfl
 obtain ⟨v5, r5, o5⟩ := rdT51 g5
 replace r5 : RepL W (fun _ => False) (eCharacter v5) noMap ((cs.drop 9).take (Tryz.prog.cellsOf 51)) [] := r5
 replace o5 : ∀ u ∈ (cs.drop 9).take (Tryz.prog.cellsOf 51), u.oneCell' = true := o5
 rw [c5] at r5 o5
 obtain ⟨n6, y6, g6⟩ := hf 6 _ rfl
 have c6 : Tryz.prog.cellsOf 52 = 1 := by kernel_rfl
 obtain ⟨v6, r6, o6⟩ := rdT52 g6
 replace r6 : RepL W (fun _ => False) ([encL 3 eSector v6]) noMap ((cs.drop 14).take (Tryz.prog.cellsOf 52)) [] := r6
 replace o6 : ∀ u ∈ (cs.drop 14).take (Tryz.prog.cellsOf 52), u.oneCell' = true := o6
 rw [c6] at r6 o6
 obtain ⟨n7, y7, g7⟩ := hf 7 _ rfl
 have c7 : Tryz.prog.cellsOf 2 = 1 := by kernel_rfl
 obtain ⟨v7, r7, o7⟩ := (rd_int (k := .i64) Tryz.underlying2) g7
 replace r7 : RepL W (fun _ => False) ([.int .i64 v7]) noMap ((cs.drop 15).take (Tryz.prog.cellsOf 2)) [] := r7
 replace o7 : ∀ u ∈ (cs.drop 15).take (Tryz.prog.cellsOf 2), u.oneCell' = true := o7
 rw [c7] at r7 o7
 refine ⟨⟨v0, v1, v2, v3, v4, v5, v6, v7⟩, ?_, ?_⟩
 ·exact split_rep (o := 0) (k := 1) r0 (split_rep (o := 1) (k := 1) r1 (split_rep (o := 2) (k := 2) r2 (split_rep (o := 4) (k := 1) r3 (split_rep (o := 5) (k := 4) r4 (split_rep (o := 9) (k := 5) r5 (split_rep (o := 14) (k := 1) r6 (split_rep (o := 15) (k := 1) r7 (end_rep (o := 16) (by omega)))))))))
 ·exact split_one (o := 0) (k := 1) o0 (split_one (o := 1) (k := 1) o1 (split_one (o := 2) (k := 2) o2 (split_one (o := 4) (k := 1) o3 (split_one (o := 5) (k := 4) o4 (split_one (o := 9) (k := 5) o5 (split_one (o := 14) (k := 1) o6 (split_one (o := 15) (k := 1) o7 (end_one (o := 16) (by omega)))))))))
theorem rdT34 : Rd Tryz.prog 34 (fun l : List Aid => [encL 16 eAid l]) := rd_slice Tryz.underlying34 (by kernel_rfl) (by decide) rdT54
end Go.Ab
