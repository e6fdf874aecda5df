/- A part of a proof: walks of functions and lemmas of our own. No conditions. -/
import Derived.Test.YtphjpngpmhammaaTAj
import Derived.Test.YtphjpngpmhammaaTAi
import Derived.Test.YtphjpngpmhammaaRows
set_option linter.unusedSectionVars false
set_option linter.unusedVariables false
set_option linter.unusedSimpArgs false
namespace Go.Ab
open Go Go.Proofs Go.Deep Go.ChangeShapes Go.WideShapes Go.ChangeAt Go.RowKit
set_option maxRecDepth 100000
theorem rdT72 : Rd Try.prog 72 eEntry := by
  intro H enc W base sp hd fuel cs x h
  obtain ⟨hl, hf⟩ := rd_fields Try.underlying72 h
  have e0 : Try.prog.cellsOf 72 = 3 := by kernel_rfl
  rw [e0] at hl
  obtain ⟨n0, y0, g0⟩ := hf 0 _ rfl
  have c0 : Try.prog.cellsOf 2 = 1 := by kernel_rfl
  obtain ⟨v0, r0, o0⟩ := (rd_int (k := .i64) Try.underlying2) g0
  replace r0 : RepL W (fun _ => False) ([.int .i64 v0]) noMap ((cs.drop 0).take (Try.prog.cellsOf 2)) [] := r0
  replace o0 : ∀ u ∈ (cs.drop 0).take (Try.prog.cellsOf 2), u.oneCell' = true := o0
  rw [c0] at r0 o0
  obtain ⟨n1, y1, g1⟩ := hf 1 _ rfl
  have c1 : Try.prog.cellsOf 9 = 1 := by kernel_rfl
  obtain ⟨v1, r1, o1⟩ := (rd_str Try.underlying9) g1
  replace r1 : RepL W (fun _ => False) ([.str v1]) noMap ((cs.drop 1).take (Try.prog.cellsOf 9)) [] := r1
  replace o1 : ∀ u ∈ (cs.drop 1).take (Try.prog.cellsOf 9), u.oneCell' = true := o1
  rw [c1] at r1 o1
  obtain ⟨n2, y2, g2⟩ := hf 2 _ rfl
  have c2 : Try.prog.cellsOf 2 = 1 := by kernel_rfl
  obtain ⟨v2, r2, o2⟩ := (rd_int (k := .i64) Try.underlying2) g2
  replace r2 : RepL W (fun _ => False) ([.int .i64 v2]) noMap ((cs.drop 2).take (Try.prog.cellsOf 2)) [] := r2
  replace o2 : ∀ u ∈ (cs.drop 2).take (Try.prog.cellsOf 2), u.oneCell' = true := o2
  rw [c2] at r2 o2
  refine ⟨⟨v0, v1, v2⟩, ?_, ?_⟩
  · exact split_rep (o := 0) (k := 1) r0 (split_rep (o := 1) (k := 1) r1 (split_rep (o := 2) (k := 1) r2 (end_rep (o := 3) (by omega))))
  · exact split_one (o := 0) (k := 1) o0 (split_one (o := 1) (k := 1) o1 (split_one (o := 2) (k := 1) o2 (end_one (o := 3) (by omega))))
theorem rdT23 : Rd Try.prog 23 (fun l : List Entry => [encL 3 eEntry l]) := rd_slice Try.underlying23 (by kernel_rfl) (by decide) rdT72
theorem rdT67 : Rd Try.prog 67 eSpare := by
  intro H enc W base sp hd fuel cs x h
  obtain ⟨hl, hf⟩ := rd_fields Try.underlying67 h
  have e0 : Try.prog.cellsOf 67 = 3 := by kernel_rfl
  rw [e0] at hl
  obtain ⟨n0, y0, g0⟩ := hf 0 _ rfl
  have c0 : Try.prog.cellsOf 9 = 1 := by kernel_rfl
  obtain ⟨v0, r0, o0⟩ := (rd_str Try.underlying9) g0
  replace r0 : RepL W (fun _ => False) ([.str v0]) noMap ((cs.drop 0).take (Try.prog.cellsOf 9)) [] := r0
  replace o0 : ∀ u ∈ (cs.drop 0).take (Try.prog.cellsOf 9), u.oneCell' = true := o0
  rw [c0] at r0 o0
  obtain ⟨n1, y1, g1⟩ := hf 1 _ rfl
  have c1 : Try.prog.cellsOf 2 = 1 := by kernel_rfl
  obtain ⟨v1, r1, o1⟩ := (rd_int (k := .i64) Try.underlying2) g1
  replace r1 : RepL W (fun _ => False) ([.int .i64 v1]) noMap ((cs.drop 1).take (Try.prog.cellsOf 2)) [] := r1
  replace o1 : ∀ u ∈ (cs.drop 1).take (Try.prog.cellsOf 2), u.oneCell' = true := o1
  rw [c1] at r1 o1
  obtain ⟨n2, y2, g2⟩ := hf 2 _ rfl
  have c2 : Try.prog.cellsOf 2 = 1 := by kernel_rfl
  obtain ⟨v2, r2, o2⟩ := (rd_int (k := .i64) Try.underlying2) g2
  replace r2 : RepL W (fun _ => False) ([.int .i64 v2]) noMap ((cs.drop 2).take (Try.prog.cellsOf 2)) [] := r2
  replace o2 : ∀ u ∈ (cs.drop 2).take (Try.prog.cellsOf 2), u.oneCell' = true := o2
  rw [c2] at r2 o2
  refine ⟨⟨v0, v1, v2⟩, ?_, ?_⟩
  · exact split_rep (o := 0) (k := 1) r0 (split_rep (o := 1) (k := 1) r1 (split_rep (o := 2) (k := 1) r2 (end_rep (o := 3) (by omega))))
  · exact split_one (o := 0) (k := 1) o0 (split_one (o := 1) (k := 1) o1 (split_one (o := 2) (k := 1) o2 (end_one (o := 3) (by omega))))
theorem rdT22 : Rd Try.prog 22 (fun l : List Spare => [encL 3 eSpare l]) := rd_slice Try.underlying22 (by kernel_rfl) (by decide) rdT67
theorem rdT25 : Rd Try.prog 25 eStore := by
  intro H enc W base sp hd fuel cs x h
  obtain ⟨hl, hf⟩ := rd_fields Try.underlying25 h
  have e0 : Try.prog.cellsOf 25 = 2 := by kernel_rfl
  rw [e0] at hl
  obtain ⟨n0, y0, g0⟩ := hf 0 _ rfl
  have c0 : Try.prog.cellsOf 22 = 1 := by kernel_rfl
  obtain ⟨v0, r0, o0⟩ := rdT22 g0
  replace r0 : RepL W (fun _ => False) ([encL 3 eSpare v0]) noMap ((cs.drop 0).take (Try.prog.cellsOf 22)) [] := r0
  replace o0 : ∀ u ∈ (cs.drop 0).take (Try.prog.cellsOf 22), u.oneCell' = true := o0
  rw [c0] at r0 o0
  obtain ⟨n1, y1, g1⟩ := hf 1 _ rfl
  have c1 : Try.prog.cellsOf 23 = 1 := by kernel_rfl
  obtain ⟨v1, r1, o1⟩ := rdT23 g1
  replace r1 : RepL W (fun _ => False) ([encL 3 eEntry v1]) noMap ((cs.drop 1).take (Try.prog.cellsOf 23)) [] := r1
  replace o1 : ∀ u ∈ (cs.drop 1).take (Try.prog.cellsOf 23), u.oneCell' = true := o1
  rw [c1] at r1 o1
  refine ⟨⟨v0, v1⟩, ?_, ?_⟩
  · exact split_rep (o := 0) (k := 1) r0 (split_rep (o := 1) (k := 1) r1 (end_rep (o := 2) (by omega)))
  · exact split_one (o := 0) (k := 1) o0 (split_one (o := 1) (k := 1) o1 (end_one (o := 2) (by omega)))
theorem rdT100 : Rd Try.prog 100 eItem := by
  intro H enc W base sp hd fuel cs x h
  obtain ⟨hl, hf⟩ := rd_fields Try.underlying100 h
  have e0 : Try.prog.cellsOf 100 = 2 := by kernel_rfl
  rw [e0] at hl
  obtain ⟨n0, y0, g0⟩ := hf 0 _ rfl
  have c0 : Try.prog.cellsOf 9 = 1 := by kernel_rfl
  obtain ⟨v0, r0, o0⟩ := (rd_str Try.underlying9) g0
  replace r0 : RepL W (fun _ => False) ([.str v0]) noMap ((cs.drop 0).take (Try.prog.cellsOf 9)) [] := r0
  replace o0 : ∀ u ∈ (cs.drop 0).take (Try.prog.cellsOf 9), u.oneCell' = true := o0
  rw [c0] at r0 o0
  obtain ⟨n1, y1, g1⟩ := hf 1 _ rfl
  have c1 : Try.prog.cellsOf 9 = 1 := by kernel_rfl
  obtain ⟨v1, r1, o1⟩ := (rd_str Try.underlying9) g1
  replace r1 : RepL W (fun _ => False) ([.str v1]) noMap ((cs.drop 1).take (Try.prog.cellsOf 9)) [] := r1
  replace o1 : ∀ u ∈ (cs.drop 1).take (Try.prog.cellsOf 9), u.oneCell' = true := o1
  rw [c1] at r1 o1
  refine ⟨⟨v0, v1⟩, ?_, ?_⟩
  · exact split_rep (o := 0) (k := 1) r0 (split_rep (o := 1) (k := 1) r1 (end_rep (o := 2) (by omega)))
  · exact split_one (o := 0) (k := 1) o0 (split_one (o := 1) (k := 1) o1 (end_one (o := 2) (by omega)))
theorem rdT35 : Rd Try.prog 35 (fun l : List Item => [encL 2 eItem l]) := rd_slice Try.underlying35 (by kernel_rfl) (by decide) rdT100
theorem rdT58 : Rd Try.prog 58 (fun l : List Int => [encL 1 eIu8 l]) := rd_slice Try.underlying58 (by kernel_rfl) (by decide) (rd_int (k := .u8) Try.underlying5)
end Go.Ab
