/- A part of a proof: walks of functions and lemmas of our own. No conditions. -/
import Derived.Test.YtaneiddiakjgdaaGreatDoorUAk
import Derived.Test.YtaneiddiakjgdaaGreatDoorUAh
import Derived.KernelRfl
import Derived.Lib.LaidTab
import Derived.Lib.Fields
import Derived.Test.YtaneiddiakjgdaaGreatDoorProg
set_option linter.unusedSectionVars false
set_option linter.unusedVariables false
set_option linter.unusedSimpArgs false
set_option maxHeartbeats 1000000
namespace Go.Ab
open Go Go.Proofs
def tn0 : String := "strings.asciiSpace"
def tabOk (w : World) : Prop := Go.Lib.TabIs Tryz.prog w tn0 .u8 Go.Lib.asciiSpaceTab
theorem g0 : Tryz.prog.globalNamed tn0 = some 0 := by kernel_rfl
instance inv0 : Inv := ⟨tabOk, fun b => b = 0, fun w h b hb => by
  subst hb
  unfold tabOk Go.Lib.TabIs World.var? at h
  rw [g0] at h
  simp only [Option.bind_some] at h
  by_cases hl : 0 < w.heap.size
  ·exact hl
  ·rw [Array.getElem?_eq_none (by omega)] at h
   simp at h, fun w w' h ho hb => by
  unfold tabOk Go.Lib.TabIs World.var? at h ⊢
  rw [g0] at h ⊢
  simp only [Option.bind_some] at h ⊢
  rw [hb 0 rfl]
  exact h⟩
def wGO {α : Type} (e : α → List AV) (d : List AV → α) : AV → Prop
 | .agg cs => simOL cs (e (d cs))
 | _ => False
theorem wGO_sim {α : Type} [Inhabited α] {e : α → List AV} {d : List AV → α} {a : AV} (h : wGO e d a) : simO a (.agg (e (rdG d a))) := by
 cases a <;> simp_all [wGO, rdG, simO]
def rdQ {α : Type} [Inhabited α] (d : List AV → α) : AV → α
 | .op cs => d cs
 | _ => default
def wQ {α : Type} (e : α → List AV) (d : List AV → α) : AV → Prop
 | .op cs => cs = e (d cs) ∨ simOL cs (e (d cs))
 | _ => False
theorem wQ_sim {α : Type} [Inhabited α] {e : α → List AV} {d : List AV → α} {a : AV} (h : wQ e d a) : simO a (.op (e (rdQ d a))) := by
 cases a with
 | op cs =>
  simp only [wQ] at h
  simp only [rdQ, simO]
  rcases h with h | h
  ·rw [← h]; exact simOL_refl _
  ·exact h
 | _ => simp [wQ] at h
def G : Env := [(2, ⟨.int .i64, 1, 8, [.int .i64 0], true⟩),
 (3, ⟨.int .i64, 1, 8, [.int .i64 0], true⟩),
 (4, ⟨.bool, 1, 1, [.bool false], true⟩),
 (5, ⟨.int .u8, 1, 1, [.int .u8 0], true⟩),
 (9, ⟨.string, 1, 16, [.str []], true⟩),
 (21, ⟨.int .i32, 1, 4, [.int .i32 0], true⟩),
 (22, ⟨.slice 85, 1, 24, [.nils], true⟩),
 (24, ⟨.slice 2, 1, 24, [.nils], true⟩),
 (27, ⟨.slice 90, 1, 24, [.nils], true⟩),
 (34, ⟨.slice 54, 1, 24, [.nils], true⟩),
 (36, ⟨.slice 119, 1, 24, [.nils], true⟩),
 (39, ⟨.slice 63, 1, 24, [.nils], true⟩),
 (47, ⟨.struct [(0, 2), (1, 2)] true, 2, 16, [.int .i64 0, .int .i64 0], true⟩),
 (49, ⟨.struct [(0, 2), (1, 9), (2, 9), (3, 9)] true, 4, 56, [.int .i64 0, .str [], .str [], .str []], true⟩),
 (51, ⟨.struct [(0, 2), (1, 24), (2, 9), (3, 9), (4, 2)] true, 5, 72, [.int .i64 0, .nils, .str [], .str [], .int .i64 0], true⟩),
 (52, ⟨.slice 185, 1, 24, [.nils], true⟩),
 (54, ⟨.struct [(0, 2), (1, 9), (2, 47), (4, 2), (5, 49), (9, 51), (14, 52), (15, 2)] true, 16, 208, [.int .i64 0, .str [], .int .i64 0, .int .i64 0, .int .i64 0, .int .i64 0, .str [], .str [], .str [], .int .i64 0, .nils, .str [], .str [], .int .i64 0, .nils, .int .i64 0], true⟩),
 (58, ⟨.struct [(0, 2), (1, 2)] true, 2, 16, [.int .i64 0, .int .i64 0], true⟩),
 (59, ⟨.struct [(0, 2), (1, 9), (2, 9), (3, 9)] true, 4, 56, [.int .i64 0, .str [], .str [], .str []], true⟩),
 (60, ⟨.struct [(0, 2), (1, 24), (2, 9), (3, 9), (4, 2)] true, 5, 72, [.int .i64 0, .nils, .str [], .str [], .int .i64 0], true⟩),
 (61, ⟨.slice 180, 1, 24, [.nils], true⟩),
 (63, ⟨.struct [(0, 2), (1, 9), (2, 58), (4, 2), (5, 59), (9, 60), (14, 61), (15, 2)] true, 16, 208, [.int .i64 0, .str [], .int .i64 0, .int .i64 0, .int .i64 0, .int .i64 0, .str [], .str [], .str [], .int .i64 0, .nils, .str [], .str [], .int .i64 0, .nils, .int .i64 0], true⟩),
 (70, ⟨.slice 5, 1, 24, [.nils], true⟩),
 (79, ⟨.struct [(0, 2), (1, 2), (2, 39)] true, 3, 40, [.int .i64 0, .int .i64 0, .nils], true⟩),
 (85, ⟨.struct [(0, 2), (1, 2), (2, 2), (3, 2), (4, 54)] true, 20, 240, [.int .i64 0, .int .i64 0, .int .i64 0, .int .i64 0, .int .i64 0, .str [], .int .i64 0, .int .i64 0, .int .i64 0, .int .i64 0, .str [], .str [], .str [], .int .i64 0, .nils, .str [], .str [], .int .i64 0, .nils, .int .i64 0], true⟩),
 (90, ⟨.struct [(0, 2), (1, 2), (2, 2), (3, 2), (4, 63)] true, 20, 240, [.int .i64 0, .int .i64 0, .int .i64 0, .int .i64 0, .int .i64 0, .str [], .int .i64 0, .int .i64 0, .int .i64 0, .int .i64 0, .str [], .str [], .str [], .int .i64 0, .nils, .str [], .str [], .int .i64 0, .nils, .int .i64 0], true⟩),
 (96, ⟨.slice 168, 1, 24, [.nils], true⟩),
 (102, ⟨.struct [(0, 2), (1, 2), (2, 34)] true, 3, 40, [.int .i64 0, .int .i64 0, .nils], true⟩),
 (119, ⟨.struct [(0, 2), (1, 63)] true, 17, 216, [.int .i64 0, .int .i64 0, .str [], .int .i64 0, .int .i64 0, .int .i64 0, .int .i64 0, .str [], .str [], .str [], .int .i64 0, .nils, .str [], .str [], .int .i64 0, .nils, .int .i64 0], true⟩),
 (148, ⟨.struct [(0, 4), (1, 63)] true, 17, 216, [.bool false, .int .i64 0, .str [], .int .i64 0, .int .i64 0, .int .i64 0, .int .i64 0, .str [], .str [], .str [], .int .i64 0, .nils, .str [], .str [], .int .i64 0, .nils, .int .i64 0], true⟩),
 (168, ⟨.struct [(0, 2), (1, 54)] true, 17, 216, [.int .i64 0, .int .i64 0, .str [], .int .i64 0, .int .i64 0, .int .i64 0, .int .i64 0, .str [], .str [], .str [], .int .i64 0, .nils, .str [], .str [], .int .i64 0, .nils, .int .i64 0], true⟩),
 (180, ⟨.struct [(0, 2), (1, 2), (2, 9)] true, 3, 32, [.int .i64 0, .int .i64 0, .str []], true⟩),
 (185, ⟨.struct [(0, 2), (1, 2), (2, 9)] true, 3, 32, [.int .i64 0, .int .i64 0, .str []], true⟩),
 (200, ⟨.slice 39, 1, 24, [.nils], true⟩),
 (201, ⟨.int .u64, 1, 8, [.int .u64 0], true⟩),
 (203, ⟨.struct [(0, 70), (1, 3), (2, 201)] true, 3, 40, [.nils, .int .i64 0, .int .u64 0], true⟩),
 (218, ⟨.slice 9, 1, 24, [.nils], true⟩),
 (261, ⟨.array 26 9, 26, 416, [.str [], .str [], .str [], .str [], .str [], .str [], .str [], .str [], .str [], .str [], .str [], .str [], .str [], .str [], .str [], .str [], .str [], .str [], .str [], .str [], .str [], .str [], .str [], .str [], .str [], .str []], true⟩)]
theorem G_ok : TyOk Tryz.prog G := by unfold TyOk; kernel_rfl
theorem gv : tget G 2 = some ⟨.int .i64, 1, 8, [.int .i64 0], true⟩ ∧
 tget G 3 = some ⟨.int .i64, 1, 8, [.int .i64 0], true⟩ ∧
 tget G 4 = some ⟨.bool, 1, 1, [.bool false], true⟩ ∧
 tget G 5 = some ⟨.int .u8, 1, 1, [.int .u8 0], true⟩ ∧
 tget G 9 = some ⟨.string, 1, 16, [.str []], true⟩ ∧
 tget G 21 = some ⟨.int .i32, 1, 4, [.int .i32 0], true⟩ ∧
 tget G 22 = some ⟨.slice 85, 1, 24, [.nils], true⟩ ∧
 tget G 24 = some ⟨.slice 2, 1, 24, [.nils], true⟩ ∧
 tget G 27 = some ⟨.slice 90, 1, 24, [.nils], true⟩ ∧
 tget G 34 = some ⟨.slice 54, 1, 24, [.nils], true⟩ ∧
 tget G 36 = some ⟨.slice 119, 1, 24, [.nils], true⟩ ∧
 tget G 39 = some ⟨.slice 63, 1, 24, [.nils], true⟩ ∧
 tget G 47 = some ⟨.struct [(0, 2), (1, 2)] true, 2, 16, [.int .i64 0, .int .i64 0], true⟩ ∧
 tget G 49 = some ⟨.struct [(0, 2), (1, 9), (2, 9), (3, 9)] true, 4, 56, [.int .i64 0, .str [], .str [], .str []], true⟩ ∧
 tget G 51 = some ⟨.struct [(0, 2), (1, 24), (2, 9), (3, 9), (4, 2)] true, 5, 72, [.int .i64 0, .nils, .str [], .str [], .int .i64 0], true⟩ ∧
 tget G 52 = some ⟨.slice 185, 1, 24, [.nils], true⟩ ∧
 tget G 54 = some ⟨.struct [(0, 2), (1, 9), (2, 47), (4, 2), (5, 49), (9, 51), (14, 52), (15, 2)] true, 16, 208, [.int .i64 0, .str [], .int .i64 0, .int .i64 0, .int .i64 0, .int .i64 0, .str [], .str [], .str [], .int .i64 0, .nils, .str [], .str [], .int .i64 0, .nils, .int .i64 0], true⟩ ∧
 tget G 58 = some ⟨.struct [(0, 2), (1, 2)] true, 2, 16, [.int .i64 0, .int .i64 0], true⟩ ∧
 tget G 59 = some ⟨.struct [(0, 2), (1, 9), (2, 9), (3, 9)] true, 4, 56, [.int .i64 0, .str [], .str [], .str []], true⟩ ∧
 tget G 60 = some ⟨.struct [(0, 2), (1, 24), (2, 9), (3, 9), (4, 2)] true, 5, 72, [.int .i64 0, .nils, .str [], .str [], .int .i64 0], true⟩ ∧
 tget G 61 = some ⟨.slice 180, 1, 24, [.nils], true⟩ ∧
 tget G 63 = some ⟨.struct [(0, 2), (1, 9), (2, 58), (4, 2), (5, 59), (9, 60), (14, 61), (15, 2)] true, 16, 208, [.int .i64 0, .str [], .int .i64 0, .int .i64 0, .int .i64 0, .int .i64 0, .str [], .str [], .str [], .int .i64 0, .nils, .str [], .str [], .int .i64 0, .nils, .int .i64 0], true⟩ ∧
 tget G 70 = some ⟨.slice 5, 1, 24, [.nils], true⟩ ∧
 tget G 79 = some ⟨.struct [(0, 2), (1, 2), (2, 39)] true, 3, 40, [.int .i64 0, .int .i64 0, .nils], true⟩ ∧
 tget G 85 = some ⟨.struct [(0, 2), (1, 2), (2, 2), (3, 2), (4, 54)] true, 20, 240, [.int .i64 0, .int .i64 0, .int .i64 0, .int .i64 0, .int .i64 0, .str [], .int .i64 0, .int .i64 0, .int .i64 0, .int .i64 0, .str [], .str [], .str [], .int .i64 0, .nils, .str [], .str [], .int .i64 0, .nils, .int .i64 0], true⟩ ∧
 tget G 90 = some ⟨.struct [(0, 2), (1, 2), (2, 2), (3, 2), (4, 63)] true, 20, 240, [.int .i64 0, .int .i64 0, .int .i64 0, .int .i64 0, .int .i64 0, .str [], .int .i64 0, .int .i64 0, .int .i64 0, .int .i64 0, .str [], .str [], .str [], .int .i64 0, .nils, .str [], .str [], .int .i64 0, .nils, .int .i64 0], true⟩ ∧
 tget G 96 = some ⟨.slice 168, 1, 24, [.nils], true⟩ ∧
 tget G 102 = some ⟨.struct [(0, 2), (1, 2), (2, 34)] true, 3, 40, [.int .i64 0, .int .i64 0, .nils], true⟩ ∧
 tget G 119 = some ⟨.struct [(0, 2), (1, 63)] true, 17, 216, [.int .i64 0, .int .i64 0, .str [], .int .i64 0, .int .i64 0, .int .i64 0, .int .i64 0, .str [], .str [], .str [], .int .i64 0, .nils, .str [], .str [], .int .i64 0, .nils, .int .i64 0], true⟩ ∧
 tget G 148 = some ⟨.struct [(0, 4), (1, 63)] true, 17, 216, [.bool false, .int .i64 0, .str [], .int .i64 0, .int .i64 0, .int .i64 0, .int .i64 0, .str [], .str [], .str [], .int .i64 0, .nils, .str [], .str [], .int .i64 0, .nils, .int .i64 0], true⟩ ∧
 tget G 168 = some ⟨.struct [(0, 2), (1, 54)] true, 17, 216, [.int .i64 0, .int .i64 0, .str [], .int .i64 0, .int .i64 0, .int .i64 0, .int .i64 0, .str [], .str [], .str [], .int .i64 0, .nils, .str [], .str [], .int .i64 0, .nils, .int .i64 0], true⟩ ∧
 tget G 180 = some ⟨.struct [(0, 2), (1, 2), (2, 9)] true, 3, 32, [.int .i64 0, .int .i64 0, .str []], true⟩ ∧
 tget G 185 = some ⟨.struct [(0, 2), (1, 2), (2, 9)] true, 3, 32, [.int .i64 0, .int .i64 0, .str []], true⟩ ∧
 tget G 200 = some ⟨.slice 39, 1, 24, [.nils], true⟩ ∧
 tget G 201 = some ⟨.int .u64, 1, 8, [.int .u64 0], true⟩ ∧
 tget G 203 = some ⟨.struct [(0, 70), (1, 3), (2, 201)] true, 3, 40, [.nils, .int .i64 0, .int .u64 0], true⟩ ∧
 tget G 218 = some ⟨.slice 9, 1, 24, [.nils], true⟩ ∧
 tget G 261 = some ⟨.array 26 9, 26, 416, [.str [], .str [], .str [], .str [], .str [], .str [], .str [], .str [], .str [], .str [], .str [], .str [], .str [], .str [], .str [], .str [], .str [], .str [], .str [], .str [], .str [], .str [], .str [], .str [], .str [], .str []], true⟩ := by
 and_intros <;> rfl
theorem mixed : Tryz.prog.follows .mixedOrders = true := by kernel_rfl
def eIi64 (v : Int) : List AV := [.int .i64 v]
def dIi64 : List AV → Int
 | [c] => rdI c
 | _ => default
def eIu8 (v : Int) : List AV := [.int .u8 v]
def dIu8 : List AV → Int
 | [c] => rdI c
 | _ => default
def eS (v : (List UInt8)) : List AV := [.str v]
def dS : List AV → (List UInt8)
 | [c] => rdS c
 | _ => default
structure Point where
 X : Int
 Y : Int
 deriving Inhabited, DecidableEq
def ePoint (v : Point) : List AV := [.int .i64 v.X, .int .i64 v.Y]
def dPoint : List AV → Point
 | c0 :: c1 :: _ => ⟨rdI c0, rdI c1⟩
 | _ => default
theorem Point_eta (v : Point) : Point.mk v.X v.Y = v := rfl
structure Mark where
 Kind : Int
 Colors : (List UInt8)
 Shape : (List UInt8)
 Topmark : (List UInt8)
 deriving Inhabited, DecidableEq
def eMark (v : Mark) : List AV := [.int .i64 v.Kind, .str v.Colors, .str v.Shape, .str v.Topmark]
def dMark : List AV → Mark
 | c0 :: c1 :: c2 :: c3 :: _ => ⟨rdI c0, rdS c1, rdS c2, rdS c3⟩
 | _ => default
theorem Mark_eta (v : Mark) : Mark.mk v.Kind v.Colors v.Shape v.Topmark = v := rfl
structure Character where
 Kind : Int
 Group : (List Int)
 Letter : (List UInt8)
 Colors : (List UInt8)
 Period : Int
 deriving Inhabited, DecidableEq
def eCharacter (v : Character) : List AV := [.int .i64 v.Kind, encL 1 eIi64 v.Group, .str v.Letter, .str v.Colors, .int .i64 v.Period]
def eCharacterO (v : Character) : List AV := [.int .i64 v.Kind, ownL 2 1 eIi64 v.Group, .str v.Letter, .str v.Colors, .int .i64 v.Period]
def dCharacter : List AV → Character
 | c0 :: c1 :: c2 :: c3 :: c4 :: _ => ⟨rdI c0, rdL dIi64 c1, rdS c2, rdS c3, rdI c4⟩
 | _ => default
theorem Character_eta (v : Character) : Character.mk v.Kind v.Group v.Letter v.Colors v.Period = v := rfl
structure Sector where
 From : Int
 To : Int
 Color : (List UInt8)
 deriving Inhabited, DecidableEq
def eSector (v : Sector) : List AV := [.int .i64 v.From, .int .i64 v.To, .str v.Color]
def dSector : List AV → Sector
 | c0 :: c1 :: c2 :: _ => ⟨rdI c0, rdI c1, rdS c2⟩
 | _ => default
theorem Sector_eta (v : Sector) : Sector.mk v.From v.To v.Color = v := rfl
structure Aid where
 Number : Int
 Name : (List UInt8)
 At : Point
 Height : Int
 Mark : Mark
 Light : Character
 Sectors : (List Sector)
 Intensity : Int
 deriving Inhabited, DecidableEq
def eAid (v : Aid) : List AV := [.int .i64 v.Number, .str v.Name, .int .i64 v.At.X, .int .i64 v.At.Y, .int .i64 v.Height, .int .i64 v.Mark.Kind, .str v.Mark.Colors, .str v.Mark.Shape, .str v.Mark.Topmark, .int .i64 v.Light.Kind, encL 1 eIi64 v.Light.Group, .str v.Light.Letter, .str v.Light.Colors, .int .i64 v.Light.Period, encL 3 eSector v.Sectors, .int .i64 v.Intensity]
def eAidO (v : Aid) : List AV := [.int .i64 v.Number, .str v.Name, .int .i64 v.At.X, .int .i64 v.At.Y, .int .i64 v.Height, .int .i64 v.Mark.Kind, .str v.Mark.Colors, .str v.Mark.Shape, .str v.Mark.Topmark, .int .i64 v.Light.Kind, ownL 2 1 eIi64 v.Light.Group, .str v.Light.Letter, .str v.Light.Colors, .int .i64 v.Light.Period, ownL 180 3 eSector v.Sectors, .int .i64 v.Intensity]
def dAid : List AV → Aid
 | c0 :: c1 :: c2 :: c3 :: c4 :: c5 :: c6 :: c7 :: c8 :: c9 :: c10 :: c11 :: c12 :: c13 :: c14 :: c15 :: _ => ⟨rdI c0, rdS c1, ⟨rdI c2, rdI c3⟩, rdI c4, ⟨rdI c5, rdS c6, rdS c7, rdS c8⟩, ⟨rdI c9, rdL dIi64 c10, rdS c11, rdS c12, rdI c13⟩, rdL dSector c14, rdI c15⟩
 | _ => default
theorem Aid_eta (v : Aid) : Aid.mk v.Number v.Name v.At v.Height v.Mark v.Light v.Sectors v.Intensity = v := rfl
structure Notice where
 Number : Int
 Day : Int
 Kind : Int
 Target : Int
 Aid : Aid
 deriving Inhabited, DecidableEq
def eNotice (v : Notice) : List AV := [.int .i64 v.Number, .int .i64 v.Day, .int .i64 v.Kind, .int .i64 v.Target, .int .i64 v.Aid.Number, .str v.Aid.Name, .int .i64 v.Aid.At.X, .int .i64 v.Aid.At.Y, .int .i64 v.Aid.Height, .int .i64 v.Aid.Mark.Kind, .str v.Aid.Mark.Colors, .str v.Aid.Mark.Shape, .str v.Aid.Mark.Topmark, .int .i64 v.Aid.Light.Kind, encL 1 eIi64 v.Aid.Light.Group, .str v.Aid.Light.Letter, .str v.Aid.Light.Colors, .int .i64 v.Aid.Light.Period, encL 3 eSector v.Aid.Sectors, .int .i64 v.Aid.Intensity]
def eNoticeO (v : Notice) : List AV := [.int .i64 v.Number, .int .i64 v.Day, .int .i64 v.Kind, .int .i64 v.Target, .int .i64 v.Aid.Number, .str v.Aid.Name, .int .i64 v.Aid.At.X, .int .i64 v.Aid.At.Y, .int .i64 v.Aid.Height, .int .i64 v.Aid.Mark.Kind, .str v.Aid.Mark.Colors, .str v.Aid.Mark.Shape, .str v.Aid.Mark.Topmark, .int .i64 v.Aid.Light.Kind, ownL 2 1 eIi64 v.Aid.Light.Group, .str v.Aid.Light.Letter, .str v.Aid.Light.Colors, .int .i64 v.Aid.Light.Period, ownL 180 3 eSector v.Aid.Sectors, .int .i64 v.Aid.Intensity]
def dNotice : List AV → Notice
 | c0 :: c1 :: c2 :: c3 :: c4 :: c5 :: c6 :: c7 :: c8 :: c9 :: c10 :: c11 :: c12 :: c13 :: c14 :: c15 :: c16 :: c17 :: c18 :: c19 :: _ => ⟨rdI c0, rdI c1, rdI c2, rdI c3, ⟨rdI c4, rdS c5, ⟨rdI c6, rdI c7⟩, rdI c8, ⟨rdI c9, rdS c10, rdS c11, rdS c12⟩, ⟨rdI c13, rdL dIi64 c14, rdS c15, rdS c16, rdI c17⟩, rdL dSector c18, rdI c19⟩⟩
 | _ => default
theorem Notice_eta (v : Notice) : Notice.mk v.Number v.Day v.Kind v.Target v.Aid = v := rfl
structure Correction where
 Kind : Int
 Aid : Aid
 deriving Inhabited, DecidableEq
def eCorrection (v : Correction) : List AV := [.int .i64 v.Kind, .int .i64 v.Aid.Number, .str v.Aid.Name, .int .i64 v.Aid.At.X, .int .i64 v.Aid.At.Y, .int .i64 v.Aid.Height, .int .i64 v.Aid.Mark.Kind, .str v.Aid.Mark.Colors, .str v.Aid.Mark.Shape, .str v.Aid.Mark.Topmark, .int .i64 v.Aid.Light.Kind, encL 1 eIi64 v.Aid.Light.Group, .str v.Aid.Light.Letter, .str v.Aid.Light.Colors, .int .i64 v.Aid.Light.Period, encL 3 eSector v.Aid.Sectors, .int .i64 v.Aid.Intensity]
def eCorrectionO (v : Correction) : List AV := [.int .i64 v.Kind, .int .i64 v.Aid.Number, .str v.Aid.Name, .int .i64 v.Aid.At.X, .int .i64 v.Aid.At.Y, .int .i64 v.Aid.Height, .int .i64 v.Aid.Mark.Kind, .str v.Aid.Mark.Colors, .str v.Aid.Mark.Shape, .str v.Aid.Mark.Topmark, .int .i64 v.Aid.Light.Kind, ownL 2 1 eIi64 v.Aid.Light.Group, .str v.Aid.Light.Letter, .str v.Aid.Light.Colors, .int .i64 v.Aid.Light.Period, ownL 180 3 eSector v.Aid.Sectors, .int .i64 v.Aid.Intensity]
def dCorrection : List AV → Correction
 | c0 :: c1 :: c2 :: c3 :: c4 :: c5 :: c6 :: c7 :: c8 :: c9 :: c10 :: c11 :: c12 :: c13 :: c14 :: c15 :: c16 :: _ => ⟨rdI c0, ⟨rdI c1, rdS c2, ⟨rdI c3, rdI c4⟩, rdI c5, ⟨rdI c6, rdS c7, rdS c8, rdS c9⟩, ⟨rdI c10, rdL dIi64 c11, rdS c12, rdS c13, rdI c14⟩, rdL dSector c15, rdI c16⟩⟩
 | _ => default
theorem Correction_eta (v : Correction) : Correction.mk v.Kind v.Aid = v := rfl
structure state where
 found : Bool
 aid : Aid
 deriving Inhabited, DecidableEq
def estate (v : state) : List AV := [.bool v.found, .int .i64 v.aid.Number, .str v.aid.Name, .int .i64 v.aid.At.X, .int .i64 v.aid.At.Y, .int .i64 v.aid.Height, .int .i64 v.aid.Mark.Kind, .str v.aid.Mark.Colors, .str v.aid.Mark.Shape, .str v.aid.Mark.Topmark, .int .i64 v.aid.Light.Kind, encL 1 eIi64 v.aid.Light.Group, .str v.aid.Light.Letter, .str v.aid.Light.Colors, .int .i64 v.aid.Light.Period, encL 3 eSector v.aid.Sectors, .int .i64 v.aid.Intensity]
def estateO (v : state) : List AV := [.bool v.found, .int .i64 v.aid.Number, .str v.aid.Name, .int .i64 v.aid.At.X, .int .i64 v.aid.At.Y, .int .i64 v.aid.Height, .int .i64 v.aid.Mark.Kind, .str v.aid.Mark.Colors, .str v.aid.Mark.Shape, .str v.aid.Mark.Topmark, .int .i64 v.aid.Light.Kind, ownL 2 1 eIi64 v.aid.Light.Group, .str v.aid.Light.Letter, .str v.aid.Light.Colors, .int .i64 v.aid.Light.Period, ownL 180 3 eSector v.aid.Sectors, .int .i64 v.aid.Intensity]
def dstate : List AV → state
 | c0 :: c1 :: c2 :: c3 :: c4 :: c5 :: c6 :: c7 :: c8 :: c9 :: c10 :: c11 :: c12 :: c13 :: c14 :: c15 :: c16 :: _ => ⟨rdB c0, ⟨rdI c1, rdS c2, ⟨rdI c3, rdI c4⟩, rdI c5, ⟨rdI c6, rdS c7, rdS c8, rdS c9⟩, ⟨rdI c10, rdL dIi64 c11, rdS c12, rdS c13, rdI c14⟩, rdL dSector c15, rdI c16⟩⟩
 | _ => default
theorem state_eta (v : state) : state.mk v.found v.aid = v := rfl
structure Edition where
 Number : Int
 Day : Int
 Aids : (List Aid)
 deriving Inhabited, DecidableEq
def eEdition (v : Edition) : List AV := [.int .i64 v.Number, .int .i64 v.Day, encL 16 eAid v.Aids]
def eEditionO (v : Edition) : List AV := [.int .i64 v.Number, .int .i64 v.Day, ownL 63 16 eAidO v.Aids]
def dEdition : List AV → Edition
 | c0 :: c1 :: c2 :: _ => ⟨rdI c0, rdI c1, rdL dAid c2⟩
 | _ => default
theorem Edition_eta (v : Edition) : Edition.mk v.Number v.Day v.Aids = v := rfl
structure l00Src where
 code : (List Int)
 at_ : Int
 seed : Int
 deriving Inhabited, DecidableEq
def el00Src (v : l00Src) : List AV := [encL 1 eIu8 v.code, .int .i64 v.at_, .int .u64 v.seed]
def el00SrcO (v : l00Src) : List AV := [ownL 5 1 eIu8 v.code, .int .i64 v.at_, .int .u64 v.seed]
def dl00Src : List AV → l00Src
 | c0 :: c1 :: c2 :: _ => ⟨rdL dIu8 c0, rdI c1, rdI c2⟩
 | _ => default
theorem l00Src_eta (v : l00Src) : l00Src.mk v.code v.at_ v.seed = v := rfl
theorem decL_Ii64 (l : List Int) : decL dIi64 l.length (fun i => [.int .i64 (l.getD i default)]) = l := range_getD l
theorem decS_Ii64 (l : List Int) (lo n : Nat) : decL dIi64 n (fun i => [.int .i64 (l.getD (lo + i) default)]) = subL l lo n := rfl
theorem decT_Ii64 (l : List Int) (n : Nat) : decL dIi64 n (fun i => [.int .i64 (l.getD i default)]) = subL l 0 n := by simp only [subL, Nat.zero_add]; rfl
theorem decL_Iu8 (l : List Int) : decL dIu8 l.length (fun i => [.int .u8 (l.getD i default)]) = l := range_getD l
theorem decS_Iu8 (l : List Int) (lo n : Nat) : decL dIu8 n (fun i => [.int .u8 (l.getD (lo + i) default)]) = subL l lo n := rfl
theorem decT_Iu8 (l : List Int) (n : Nat) : decL dIu8 n (fun i => [.int .u8 (l.getD i default)]) = subL l 0 n := by simp only [subL, Nat.zero_add]; rfl
def eLAid (v : (List Aid)) : List AV := [encL 16 eAid v]
def dLAid : List AV → (List Aid)
 | [c] => rdL dAid c
 | _ => default
theorem decL_S (l : List (List UInt8)) : decL dS l.length (fun i => [.str (l.getD i default)]) = l := range_getD l
theorem decS_S (l : List (List UInt8)) (lo n : Nat) : decL dS n (fun i => [.str (l.getD (lo + i) default)]) = subL l lo n := rfl
theorem decT_S (l : List (List UInt8)) (n : Nat) : decL dS n (fun i => [.str (l.getD i default)]) = subL l 0 n := by simp only [subL, Nat.zero_add]; rfl
theorem decL_Sector (l : List Sector) : decL dSector l.length (fun i => [.int .i64 ((l.getD i default).From), .int .i64 ((l.getD i default).To), .str ((l.getD i default).Color)]) = l := range_getD l
theorem decS_Sector (l : List Sector) (lo n : Nat) : decL dSector n (fun i => [.int .i64 ((l.getD (lo + i) default).From), .int .i64 ((l.getD (lo + i) default).To), .str ((l.getD (lo + i) default).Color)]) = subL l lo n := rfl
theorem decT_Sector (l : List Sector) (n : Nat) : decL dSector n (fun i => [.int .i64 ((l.getD i default).From), .int .i64 ((l.getD i default).To), .str ((l.getD i default).Color)]) = subL l 0 n := by simp only [subL, Nat.zero_add]; rfl
theorem dec_Aid (v : Aid) : dAid [.int .i64 v.Number, .str v.Name, .int .i64 v.At.X, .int .i64 v.At.Y, .int .i64 v.Height, .int .i64 v.Mark.Kind, .str v.Mark.Colors, .str v.Mark.Shape, .str v.Mark.Topmark, .int .i64 v.Light.Kind, .sl none 1 v.Light.Group.length (fun j => [.int .i64 (v.Light.Group.getD j default)]), .str v.Light.Letter, .str v.Light.Colors, .int .i64 v.Light.Period, .sl none 3 v.Sectors.length (fun j => [.int .i64 ((v.Sectors.getD j default).From), .int .i64 ((v.Sectors.getD j default).To), .str ((v.Sectors.getD j default).Color)]), .int .i64 v.Intensity] = v := by simp only [dAid, rdI, rdB, rdS, rdL, decL_Ii64, decL_Iu8, decL_S, decL_Sector]
theorem decL_Aid (l : List Aid) : decL dAid l.length (fun i => [.int .i64 ((l.getD i default).Number), .str ((l.getD i default).Name), .int .i64 (((l.getD i default).At).X), .int .i64 (((l.getD i default).At).Y), .int .i64 ((l.getD i default).Height), .int .i64 (((l.getD i default).Mark).Kind), .str (((l.getD i default).Mark).Colors), .str (((l.getD i default).Mark).Shape), .str (((l.getD i default).Mark).Topmark), .int .i64 (((l.getD i default).Light).Kind), .sl none 1 (((l.getD i default).Light).Group).length (fun j => [.int .i64 ((((l.getD i default).Light).Group).getD j default)]), .str (((l.getD i default).Light).Letter), .str (((l.getD i default).Light).Colors), .int .i64 (((l.getD i default).Light).Period), .sl none 3 ((l.getD i default).Sectors).length (fun j => [.int .i64 ((((l.getD i default).Sectors).getD j default).From), .int .i64 ((((l.getD i default).Sectors).getD j default).To), .str ((((l.getD i default).Sectors).getD j default).Color)]), .int .i64 ((l.getD i default).Intensity)]) = l := (List.map_congr_left fun i _ => dec_Aid (l.getD i default)).trans (range_getD l)
theorem decS_Aid (l : List Aid) (lo n : Nat) : decL dAid n (fun i => [.int .i64 ((l.getD (lo + i) default).Number), .str ((l.getD (lo + i) default).Name), .int .i64 (((l.getD (lo + i) default).At).X), .int .i64 (((l.getD (lo + i) default).At).Y), .int .i64 ((l.getD (lo + i) default).Height), .int .i64 (((l.getD (lo + i) default).Mark).Kind), .str (((l.getD (lo + i) default).Mark).Colors), .str (((l.getD (lo + i) default).Mark).Shape), .str (((l.getD (lo + i) default).Mark).Topmark), .int .i64 (((l.getD (lo + i) default).Light).Kind), .sl none 1 (((l.getD (lo + i) default).Light).Group).length (fun j => [.int .i64 ((((l.getD (lo + i) default).Light).Group).getD j default)]), .str (((l.getD (lo + i) default).Light).Letter), .str (((l.getD (lo + i) default).Light).Colors), .int .i64 (((l.getD (lo + i) default).Light).Period), .sl none 3 ((l.getD (lo + i) default).Sectors).length (fun j => [.int .i64 ((((l.getD (lo + i) default).Sectors).getD j default).From), .int .i64 ((((l.getD (lo + i) default).Sectors).getD j default).To), .str ((((l.getD (lo + i) default).Sectors).getD j default).Color)]), .int .i64 ((l.getD (lo + i) default).Intensity)]) = subL l lo n := List.map_congr_left fun i _ => dec_Aid (l.getD (lo + i) default)
theorem decT_Aid (l : List Aid) (n : Nat) : decL dAid n (fun i => [.int .i64 ((l.getD i default).Number), .str ((l.getD i default).Name), .int .i64 (((l.getD i default).At).X), .int .i64 (((l.getD i default).At).Y), .int .i64 ((l.getD i default).Height), .int .i64 (((l.getD i default).Mark).Kind), .str (((l.getD i default).Mark).Colors), .str (((l.getD i default).Mark).Shape), .str (((l.getD i default).Mark).Topmark), .int .i64 (((l.getD i default).Light).Kind), .sl none 1 (((l.getD i default).Light).Group).length (fun j => [.int .i64 ((((l.getD i default).Light).Group).getD j default)]), .str (((l.getD i default).Light).Letter), .str (((l.getD i default).Light).Colors), .int .i64 (((l.getD i default).Light).Period), .sl none 3 ((l.getD i default).Sectors).length (fun j => [.int .i64 ((((l.getD i default).Sectors).getD j default).From), .int .i64 ((((l.getD i default).Sectors).getD j default).To), .str ((((l.getD i default).Sectors).getD j default).Color)]), .int .i64 ((l.getD i default).Intensity)]) = subL l 0 n := by simp only [subL, Nat.zero_add]; exact List.map_congr_left fun i _ => dec_Aid (l.getD i default)
theorem decO_Aid (v : Aid) : dAid [.int .i64 v.Number, .str v.Name, .int .i64 v.At.X, .int .i64 v.At.Y, .int .i64 v.Height, .int .i64 v.Mark.Kind, .str v.Mark.Colors, .str v.Mark.Shape, .str v.Mark.Topmark, .int .i64 v.Light.Kind, .sl (some 2) 1 v.Light.Group.length (fun j => [.int .i64 (v.Light.Group.getD j default)]), .str v.Light.Letter, .str v.Light.Colors, .int .i64 v.Light.Period, .sl (some 180) 3 v.Sectors.length (fun j => [.int .i64 ((v.Sectors.getD j default).From), .int .i64 ((v.Sectors.getD j default).To), .str ((v.Sectors.getD j default).Color)]), .int .i64 v.Intensity] = v := by simp only [dAid, rdI, rdB, rdS, rdL, decL_Ii64, decL_Iu8, decL_S, decL_Sector, decL_Aid]
theorem decLO_Aid (l : List Aid) : decL dAid l.length (fun i => [.int .i64 ((l.getD i default).Number), .str ((l.getD i default).Name), .int .i64 (((l.getD i default).At).X), .int .i64 (((l.getD i default).At).Y), .int .i64 ((l.getD i default).Height), .int .i64 (((l.getD i default).Mark).Kind), .str (((l.getD i default).Mark).Colors), .str (((l.getD i default).Mark).Shape), .str (((l.getD i default).Mark).Topmark), .int .i64 (((l.getD i default).Light).Kind), .sl (some 2) 1 (((l.getD i default).Light).Group).length (fun j => [.int .i64 ((((l.getD i default).Light).Group).getD j default)]), .str (((l.getD i default).Light).Letter), .str (((l.getD i default).Light).Colors), .int .i64 (((l.getD i default).Light).Period), .sl (some 180) 3 ((l.getD i default).Sectors).length (fun j => [.int .i64 ((((l.getD i default).Sectors).getD j default).From), .int .i64 ((((l.getD i default).Sectors).getD j default).To), .str ((((l.getD i default).Sectors).getD j default).Color)]), .int .i64 ((l.getD i default).Intensity)]) = l := (List.map_congr_left fun i _ => decO_Aid (l.getD i default)).trans (range_getD l)
theorem decSO_Aid (l : List Aid) (lo n : Nat) : decL dAid n (fun i => [.int .i64 ((l.getD (lo + i) default).Number), .str ((l.getD (lo + i) default).Name), .int .i64 (((l.getD (lo + i) default).At).X), .int .i64 (((l.getD (lo + i) default).At).Y), .int .i64 ((l.getD (lo + i) default).Height), .int .i64 (((l.getD (lo + i) default).Mark).Kind), .str (((l.getD (lo + i) default).Mark).Colors), .str (((l.getD (lo + i) default).Mark).Shape), .str (((l.getD (lo + i) default).Mark).Topmark), .int .i64 (((l.getD (lo + i) default).Light).Kind), .sl (some 2) 1 (((l.getD (lo + i) default).Light).Group).length (fun j => [.int .i64 ((((l.getD (lo + i) default).Light).Group).getD j default)]), .str (((l.getD (lo + i) default).Light).Letter), .str (((l.getD (lo + i) default).Light).Colors), .int .i64 (((l.getD (lo + i) default).Light).Period), .sl (some 180) 3 ((l.getD (lo + i) default).Sectors).length (fun j => [.int .i64 ((((l.getD (lo + i) default).Sectors).getD j default).From), .int .i64 ((((l.getD (lo + i) default).Sectors).getD j default).To), .str ((((l.getD (lo + i) default).Sectors).getD j default).Color)]), .int .i64 ((l.getD (lo + i) default).Intensity)]) = subL l lo n := List.map_congr_left fun i _ => decO_Aid (l.getD (lo + i) default)
theorem decTO_Aid (l : List Aid) (n : Nat) : decL dAid n (fun i => [.int .i64 ((l.getD i default).Number), .str ((l.getD i default).Name), .int .i64 (((l.getD i default).At).X), .int .i64 (((l.getD i default).At).Y), .int .i64 ((l.getD i default).Height), .int .i64 (((l.getD i default).Mark).Kind), .str (((l.getD i default).Mark).Colors), .str (((l.getD i default).Mark).Shape), .str (((l.getD i default).Mark).Topmark), .int .i64 (((l.getD i default).Light).Kind), .sl (some 2) 1 (((l.getD i default).Light).Group).length (fun j => [.int .i64 ((((l.getD i default).Light).Group).getD j default)]), .str (((l.getD i default).Light).Letter), .str (((l.getD i default).Light).Colors), .int .i64 (((l.getD i default).Light).Period), .sl (some 180) 3 ((l.getD i default).Sectors).length (fun j => [.int .i64 ((((l.getD i default).Sectors).getD j default).From), .int .i64 ((((l.getD i default).Sectors).getD j default).To), .str ((((l.getD i default).Sectors).getD j default).Color)]), .int .i64 ((l.getD i default).Intensity)]) = subL l 0 n := by simp only [subL, Nat.zero_add]; exact List.map_congr_left fun i _ => decO_Aid (l.getD i default)
theorem dec_Correction (v : Correction) : dCorrection [.int .i64 v.Kind, .int .i64 v.Aid.Number, .str v.Aid.Name, .int .i64 v.Aid.At.X, .int .i64 v.Aid.At.Y, .int .i64 v.Aid.Height, .int .i64 v.Aid.Mark.Kind, .str v.Aid.Mark.Colors, .str v.Aid.Mark.Shape, .str v.Aid.Mark.Topmark, .int .i64 v.Aid.Light.Kind, .sl none 1 v.Aid.Light.Group.length (fun j => [.int .i64 (v.Aid.Light.Group.getD j default)]), .str v.Aid.Light.Letter, .str v.Aid.Light.Colors, .int .i64 v.Aid.Light.Period, .sl none 3 v.Aid.Sectors.length (fun j => [.int .i64 ((v.Aid.Sectors.getD j default).From), .int .i64 ((v.Aid.Sectors.getD j default).To), .str ((v.Aid.Sectors.getD j default).Color)]), .int .i64 v.Aid.Intensity] = v := by simp only [dCorrection, rdI, rdB, rdS, rdL, decL_Ii64, decL_Iu8, decL_S, decL_Sector, decL_Aid, decLO_Aid]
theorem decL_Correction (l : List Correction) : decL dCorrection l.length (fun i => [.int .i64 ((l.getD i default).Kind), .int .i64 (((l.getD i default).Aid).Number), .str (((l.getD i default).Aid).Name), .int .i64 ((((l.getD i default).Aid).At).X), .int .i64 ((((l.getD i default).Aid).At).Y), .int .i64 (((l.getD i default).Aid).Height), .int .i64 ((((l.getD i default).Aid).Mark).Kind), .str ((((l.getD i default).Aid).Mark).Colors), .str ((((l.getD i default).Aid).Mark).Shape), .str ((((l.getD i default).Aid).Mark).Topmark), .int .i64 ((((l.getD i default).Aid).Light).Kind), .sl none 1 ((((l.getD i default).Aid).Light).Group).length (fun j => [.int .i64 (((((l.getD i default).Aid).Light).Group).getD j default)]), .str ((((l.getD i default).Aid).Light).Letter), .str ((((l.getD i default).Aid).Light).Colors), .int .i64 ((((l.getD i default).Aid).Light).Period), .sl none 3 (((l.getD i default).Aid).Sectors).length (fun j => [.int .i64 (((((l.getD i default).Aid).Sectors).getD j default).From), .int .i64 (((((l.getD i default).Aid).Sectors).getD j default).To), .str (((((l.getD i default).Aid).Sectors).getD j default).Color)]), .int .i64 (((l.getD i default).Aid).Intensity)]) = l := (List.map_congr_left fun i _ => dec_Correction (l.getD i default)).trans (range_getD l)
theorem decS_Correction (l : List Correction) (lo n : Nat) : decL dCorrection n (fun i => [.int .i64 ((l.getD (lo + i) default).Kind), .int .i64 (((l.getD (lo + i) default).Aid).Number), .str (((l.getD (lo + i) default).Aid).Name), .int .i64 ((((l.getD (lo + i) default).Aid).At).X), .int .i64 ((((l.getD (lo + i) default).Aid).At).Y), .int .i64 (((l.getD (lo + i) default).Aid).Height), .int .i64 ((((l.getD (lo + i) default).Aid).Mark).Kind), .str ((((l.getD (lo + i) default).Aid).Mark).Colors), .str ((((l.getD (lo + i) default).Aid).Mark).Shape), .str ((((l.getD (lo + i) default).Aid).Mark).Topmark), .int .i64 ((((l.getD (lo + i) default).Aid).Light).Kind), .sl none 1 ((((l.getD (lo + i) default).Aid).Light).Group).length (fun j => [.int .i64 (((((l.getD (lo + i) default).Aid).Light).Group).getD j default)]), .str ((((l.getD (lo + i) default).Aid).Light).Letter), .str ((((l.getD (lo + i) default).Aid).Light).Colors), .int .i64 ((((l.getD (lo + i) default).Aid).Light).Period), .sl none 3 (((l.getD (lo + i) default).Aid).Sectors).length (fun j => [.int .i64 (((((l.getD (lo + i) default).Aid).Sectors).getD j default).From), .int .i64 (((((l.getD (lo + i) default).Aid).Sectors).getD j default).To), .str (((((l.getD (lo + i) default).Aid).Sectors).getD j default).Color)]), .int .i64 (((l.getD (lo + i) default).Aid).Intensity)]) = subL l lo n := List.map_congr_left fun i _ => dec_Correction (l.getD (lo + i) default)
theorem decT_Correction (l : List Correction) (n : Nat) : decL dCorrection n (fun i => [.int .i64 ((l.getD i default).Kind), .int .i64 (((l.getD i default).Aid).Number), .str (((l.getD i default).Aid).Name), .int .i64 ((((l.getD i default).Aid).At).X), .int .i64 ((((l.getD i default).Aid).At).Y), .int .i64 (((l.getD i default).Aid).Height), .int .i64 ((((l.getD i default).Aid).Mark).Kind), .str ((((l.getD i default).Aid).Mark).Colors), .str ((((l.getD i default).Aid).Mark).Shape), .str ((((l.getD i default).Aid).Mark).Topmark), .int .i64 ((((l.getD i default).Aid).Light).Kind), .sl none 1 ((((l.getD i default).Aid).Light).Group).length (fun j => [.int .i64 (((((l.getD i default).Aid).Light).Group).getD j default)]), .str ((((l.getD i default).Aid).Light).Letter), .str ((((l.getD i default).Aid).Light).Colors), .int .i64 ((((l.getD i default).Aid).Light).Period), .sl none 3 (((l.getD i default).Aid).Sectors).length (fun j => [.int .i64 (((((l.getD i default).Aid).Sectors).getD j default).From), .int .i64 (((((l.getD i default).Aid).Sectors).getD j default).To), .str (((((l.getD i default).Aid).Sectors).getD j default).Color)]), .int .i64 (((l.getD i default).Aid).Intensity)]) = subL l 0 n := by simp only [subL, Nat.zero_add]; exact List.map_congr_left fun i _ => dec_Correction (l.getD i default)
theorem decO_Correction (v : Correction) : dCorrection [.int .i64 v.Kind, .int .i64 v.Aid.Number, .str v.Aid.Name, .int .i64 v.Aid.At.X, .int .i64 v.Aid.At.Y, .int .i64 v.Aid.Height, .int .i64 v.Aid.Mark.Kind, .str v.Aid.Mark.Colors, .str v.Aid.Mark.Shape, .str v.Aid.Mark.Topmark, .int .i64 v.Aid.Light.Kind, .sl (some 2) 1 v.Aid.Light.Group.length (fun j => [.int .i64 (v.Aid.Light.Group.getD j default)]), .str v.Aid.Light.Letter, .str v.Aid.Light.Colors, .int .i64 v.Aid.Light.Period, .sl (some 180) 3 v.Aid.Sectors.length (fun j => [.int .i64 ((v.Aid.Sectors.getD j default).From), .int .i64 ((v.Aid.Sectors.getD j default).To), .str ((v.Aid.Sectors.getD j default).Color)]), .int .i64 v.Aid.Intensity] = v := by simp only [dCorrection, rdI, rdB, rdS, rdL, decL_Ii64, decL_Iu8, decL_S, decL_Sector, decL_Aid, decLO_Aid, decL_Correction]
theorem decLO_Correction (l : List Correction) : decL dCorrection l.length (fun i => [.int .i64 ((l.getD i default).Kind), .int .i64 (((l.getD i default).Aid).Number), .str (((l.getD i default).Aid).Name), .int .i64 ((((l.getD i default).Aid).At).X), .int .i64 ((((l.getD i default).Aid).At).Y), .int .i64 (((l.getD i default).Aid).Height), .int .i64 ((((l.getD i default).Aid).Mark).Kind), .str ((((l.getD i default).Aid).Mark).Colors), .str ((((l.getD i default).Aid).Mark).Shape), .str ((((l.getD i default).Aid).Mark).Topmark), .int .i64 ((((l.getD i default).Aid).Light).Kind), .sl (some 2) 1 ((((l.getD i default).Aid).Light).Group).length (fun j => [.int .i64 (((((l.getD i default).Aid).Light).Group).getD j default)]), .str ((((l.getD i default).Aid).Light).Letter), .str ((((l.getD i default).Aid).Light).Colors), .int .i64 ((((l.getD i default).Aid).Light).Period), .sl (some 180) 3 (((l.getD i default).Aid).Sectors).length (fun j => [.int .i64 (((((l.getD i default).Aid).Sectors).getD j default).From), .int .i64 (((((l.getD i default).Aid).Sectors).getD j default).To), .str (((((l.getD i default).Aid).Sectors).getD j default).Color)]), .int .i64 (((l.getD i default).Aid).Intensity)]) = l := (List.map_congr_left fun i _ => decO_Correction (l.getD i default)).trans (range_getD l)
theorem decSO_Correction (l : List Correction) (lo n : Nat) : decL dCorrection n (fun i => [.int .i64 ((l.getD (lo + i) default).Kind), .int .i64 (((l.getD (lo + i) default).Aid).Number), .str (((l.getD (lo + i) default).Aid).Name), .int .i64 ((((l.getD (lo + i) default).Aid).At).X), .int .i64 ((((l.getD (lo + i) default).Aid).At).Y), .int .i64 (((l.getD (lo + i) default).Aid).Height), .int .i64 ((((l.getD (lo + i) default).Aid).Mark).Kind), .str ((((l.getD (lo + i) default).Aid).Mark).Colors), .str ((((l.getD (lo + i) default).Aid).Mark).Shape), .str ((((l.getD (lo + i) default).Aid).Mark).Topmark), .int .i64 ((((l.getD (lo + i) default).Aid).Light).Kind), .sl (some 2) 1 ((((l.getD (lo + i) default).Aid).Light).Group).length (fun j => [.int .i64 (((((l.getD (lo + i) default).Aid).Light).Group).getD j default)]), .str ((((l.getD (lo + i) default).Aid).Light).Letter), .str ((((l.getD (lo + i) default).Aid).Light).Colors), .int .i64 ((((l.getD (lo + i) default).Aid).Light).Period), .sl (some 180) 3 (((l.getD (lo + i) default).Aid).Sectors).length (fun j => [.int .i64 (((((l.getD (lo + i) default).Aid).Sectors).getD j default).From), .int .i64 (((((l.getD (lo + i) default).Aid).Sectors).getD j default).To), .str (((((l.getD (lo + i) default).Aid).Sectors).getD j default).Color)]), .int .i64 (((l.getD (lo + i) default).Aid).Intensity)]) = subL l lo n := List.map_congr_left fun i _ => decO_Correction (l.getD (lo + i) default)
theorem decTO_Correction (l : List Correction) (n : Nat) : decL dCorrection n (fun i => [.int .i64 ((l.getD i default).Kind), .int .i64 (((l.getD i default).Aid).Number), .str (((l.getD i default).Aid).Name), .int .i64 ((((l.getD i default).Aid).At).X), .int .i64 ((((l.getD i default).Aid).At).Y), .int .i64 (((l.getD i default).Aid).Height), .int .i64 ((((l.getD i default).Aid).Mark).Kind), .str ((((l.getD i default).Aid).Mark).Colors), .str ((((l.getD i default).Aid).Mark).Shape), .str ((((l.getD i default).Aid).Mark).Topmark), .int .i64 ((((l.getD i default).Aid).Light).Kind), .sl (some 2) 1 ((((l.getD i default).Aid).Light).Group).length (fun j => [.int .i64 (((((l.getD i default).Aid).Light).Group).getD j default)]), .str ((((l.getD i default).Aid).Light).Letter), .str ((((l.getD i default).Aid).Light).Colors), .int .i64 ((((l.getD i default).Aid).Light).Period), .sl (some 180) 3 (((l.getD i default).Aid).Sectors).length (fun j => [.int .i64 (((((l.getD i default).Aid).Sectors).getD j default).From), .int .i64 (((((l.getD i default).Aid).Sectors).getD j default).To), .str (((((l.getD i default).Aid).Sectors).getD j default).Color)]), .int .i64 (((l.getD i default).Aid).Intensity)]) = subL l 0 n := by simp only [subL, Nat.zero_add]; exact List.map_congr_left fun i _ => decO_Correction (l.getD i default)
theorem dec_Notice (v : Notice) : dNotice [.int .i64 v.Number, .int .i64 v.Day, .int .i64 v.Kind, .int .i64 v.Target, .int .i64 v.Aid.Number, .str v.Aid.Name, .int .i64 v.Aid.At.X, .int .i64 v.Aid.At.Y, .int .i64 v.Aid.Height, .int .i64 v.Aid.Mark.Kind, .str v.Aid.Mark.Colors, .str v.Aid.Mark.Shape, .str v.Aid.Mark.Topmark, .int .i64 v.Aid.Light.Kind, .sl none 1 v.Aid.Light.Group.length (fun j => [.int .i64 (v.Aid.Light.Group.getD j default)]), .str v.Aid.Light.Letter, .str v.Aid.Light.Colors, .int .i64 v.Aid.Light.Period, .sl none 3 v.Aid.Sectors.length (fun j => [.int .i64 ((v.Aid.Sectors.getD j default).From), .int .i64 ((v.Aid.Sectors.getD j default).To), .str ((v.Aid.Sectors.getD j default).Color)]), .int .i64 v.Aid.Intensity] = v := by simp only [dNotice, rdI, rdB, rdS, rdL, decL_Ii64, decL_Iu8, decL_S, decL_Sector, decL_Aid, decLO_Aid, decL_Correction, decLO_Correction]
theorem decL_Notice (l : List Notice) : decL dNotice l.length (fun i => [.int .i64 ((l.getD i default).Number), .int .i64 ((l.getD i default).Day), .int .i64 ((l.getD i default).Kind), .int .i64 ((l.getD i default).Target), .int .i64 (((l.getD i default).Aid).Number), .str (((l.getD i default).Aid).Name), .int .i64 ((((l.getD i default).Aid).At).X), .int .i64 ((((l.getD i default).Aid).At).Y), .int .i64 (((l.getD i default).Aid).Height), .int .i64 ((((l.getD i default).Aid).Mark).Kind), .str ((((l.getD i default).Aid).Mark).Colors), .str ((((l.getD i default).Aid).Mark).Shape), .str ((((l.getD i default).Aid).Mark).Topmark), .int .i64 ((((l.getD i default).Aid).Light).Kind), .sl none 1 ((((l.getD i default).Aid).Light).Group).length (fun j => [.int .i64 (((((l.getD i default).Aid).Light).Group).getD j default)]), .str ((((l.getD i default).Aid).Light).Letter), .str ((((l.getD i default).Aid).Light).Colors), .int .i64 ((((l.getD i default).Aid).Light).Period), .sl none 3 (((l.getD i default).Aid).Sectors).length (fun j => [.int .i64 (((((l.getD i default).Aid).Sectors).getD j default).From), .int .i64 (((((l.getD i default).Aid).Sectors).getD j default).To), .str (((((l.getD i default).Aid).Sectors).getD j default).Color)]), .int .i64 (((l.getD i default).Aid).Intensity)]) = l := (List.map_congr_left fun i _ => dec_Notice (l.getD i default)).trans (range_getD l)
theorem decS_Notice (l : List Notice) (lo n : Nat) : decL dNotice n (fun i => [.int .i64 ((l.getD (lo + i) default).Number), .int .i64 ((l.getD (lo + i) default).Day), .int .i64 ((l.getD (lo + i) default).Kind), .int .i64 ((l.getD (lo + i) default).Target), .int .i64 (((l.getD (lo + i) default).Aid).Number), .str (((l.getD (lo + i) default).Aid).Name), .int .i64 ((((l.getD (lo + i) default).Aid).At).X), .int .i64 ((((l.getD (lo + i) default).Aid).At).Y), .int .i64 (((l.getD (lo + i) default).Aid).Height), .int .i64 ((((l.getD (lo + i) default).Aid).Mark).Kind), .str ((((l.getD (lo + i) default).Aid).Mark).Colors), .str ((((l.getD (lo + i) default).Aid).Mark).Shape), .str ((((l.getD (lo + i) default).Aid).Mark).Topmark), .int .i64 ((((l.getD (lo + i) default).Aid).Light).Kind), .sl none 1 ((((l.getD (lo + i) default).Aid).Light).Group).length (fun j => [.int .i64 (((((l.getD (lo + i) default).Aid).Light).Group).getD j default)]), .str ((((l.getD (lo + i) default).Aid).Light).Letter), .str ((((l.getD (lo + i) default).Aid).Light).Colors), .int .i64 ((((l.getD (lo + i) default).Aid).Light).Period), .sl none 3 (((l.getD (lo + i) default).Aid).Sectors).length (fun j => [.int .i64 (((((l.getD (lo + i) default).Aid).Sectors).getD j default).From), .int .i64 (((((l.getD (lo + i) default).Aid).Sectors).getD j default).To), .str (((((l.getD (lo + i) default).Aid).Sectors).getD j default).Color)]), .int .i64 (((l.getD (lo + i) default).Aid).Intensity)]) = subL l lo n := List.map_congr_left fun i _ => dec_Notice (l.getD (lo + i) default)
theorem decT_Notice (l : List Notice) (n : Nat) : decL dNotice n (fun i => [.int .i64 ((l.getD i default).Number), .int .i64 ((l.getD i default).Day), .int .i64 ((l.getD i default).Kind), .int .i64 ((l.getD i default).Target), .int .i64 (((l.getD i default).Aid).Number), .str (((l.getD i default).Aid).Name), .int .i64 ((((l.getD i default).Aid).At).X), .int .i64 ((((l.getD i default).Aid).At).Y), .int .i64 (((l.getD i default).Aid).Height), .int .i64 ((((l.getD i default).Aid).Mark).Kind), .str ((((l.getD i default).Aid).Mark).Colors), .str ((((l.getD i default).Aid).Mark).Shape), .str ((((l.getD i default).Aid).Mark).Topmark), .int .i64 ((((l.getD i default).Aid).Light).Kind), .sl none 1 ((((l.getD i default).Aid).Light).Group).length (fun j => [.int .i64 (((((l.getD i default).Aid).Light).Group).getD j default)]), .str ((((l.getD i default).Aid).Light).Letter), .str ((((l.getD i default).Aid).Light).Colors), .int .i64 ((((l.getD i default).Aid).Light).Period), .sl none 3 (((l.getD i default).Aid).Sectors).length (fun j => [.int .i64 (((((l.getD i default).Aid).Sectors).getD j default).From), .int .i64 (((((l.getD i default).Aid).Sectors).getD j default).To), .str (((((l.getD i default).Aid).Sectors).getD j default).Color)]), .int .i64 (((l.getD i default).Aid).Intensity)]) = subL l 0 n := by simp only [subL, Nat.zero_add]; exact List.map_congr_left fun i _ => dec_Notice (l.getD i default)
theorem decO_Notice (v : Notice) : dNotice [.int .i64 v.Number, .int .i64 v.Day, .int .i64 v.Kind, .int .i64 v.Target, .int .i64 v.Aid.Number, .str v.Aid.Name, .int .i64 v.Aid.At.X, .int .i64 v.Aid.At.Y, .int .i64 v.Aid.Height, .int .i64 v.Aid.Mark.Kind, .str v.Aid.Mark.Colors, .str v.Aid.Mark.Shape, .str v.Aid.Mark.Topmark, .int .i64 v.Aid.Light.Kind, .sl (some 2) 1 v.Aid.Light.Group.length (fun j => [.int .i64 (v.Aid.Light.Group.getD j default)]), .str v.Aid.Light.Letter, .str v.Aid.Light.Colors, .int .i64 v.Aid.Light.Period, .sl (some 180) 3 v.Aid.Sectors.length (fun j => [.int .i64 ((v.Aid.Sectors.getD j default).From), .int .i64 ((v.Aid.Sectors.getD j default).To), .str ((v.Aid.Sectors.getD j default).Color)]), .int .i64 v.Aid.Intensity] = v := by simp only [dNotice, rdI, rdB, rdS, rdL, decL_Ii64, decL_Iu8, decL_S, decL_Sector, decL_Aid, decLO_Aid, decL_Correction, decLO_Correction, decL_Notice]
theorem decLO_Notice (l : List Notice) : decL dNotice l.length (fun i => [.int .i64 ((l.getD i default).Number), .int .i64 ((l.getD i default).Day), .int .i64 ((l.getD i default).Kind), .int .i64 ((l.getD i default).Target), .int .i64 (((l.getD i default).Aid).Number), .str (((l.getD i default).Aid).Name), .int .i64 ((((l.getD i default).Aid).At).X), .int .i64 ((((l.getD i default).Aid).At).Y), .int .i64 (((l.getD i default).Aid).Height), .int .i64 ((((l.getD i default).Aid).Mark).Kind), .str ((((l.getD i default).Aid).Mark).Colors), .str ((((l.getD i default).Aid).Mark).Shape), .str ((((l.getD i default).Aid).Mark).Topmark), .int .i64 ((((l.getD i default).Aid).Light).Kind), .sl (some 2) 1 ((((l.getD i default).Aid).Light).Group).length (fun j => [.int .i64 (((((l.getD i default).Aid).Light).Group).getD j default)]), .str ((((l.getD i default).Aid).Light).Letter), .str ((((l.getD i default).Aid).Light).Colors), .int .i64 ((((l.getD i default).Aid).Light).Period), .sl (some 180) 3 (((l.getD i default).Aid).Sectors).length (fun j => [.int .i64 (((((l.getD i default).Aid).Sectors).getD j default).From), .int .i64 (((((l.getD i default).Aid).Sectors).getD j default).To), .str (((((l.getD i default).Aid).Sectors).getD j default).Color)]), .int .i64 (((l.getD i default).Aid).Intensity)]) = l := (List.map_congr_left fun i _ => decO_Notice (l.getD i default)).trans (range_getD l)
theorem decSO_Notice (l : List Notice) (lo n : Nat) : decL dNotice n (fun i => [.int .i64 ((l.getD (lo + i) default).Number), .int .i64 ((l.getD (lo + i) default).Day), .int .i64 ((l.getD (lo + i) default).Kind), .int .i64 ((l.getD (lo + i) default).Target), .int .i64 (((l.getD (lo + i) default).Aid).Number), .str (((l.getD (lo + i) default).Aid).Name), .int .i64 ((((l.getD (lo + i) default).Aid).At).X), .int .i64 ((((l.getD (lo + i) default).Aid).At).Y), .int .i64 (((l.getD (lo + i) default).Aid).Height), .int .i64 ((((l.getD (lo + i) default).Aid).Mark).Kind), .str ((((l.getD (lo + i) default).Aid).Mark).Colors), .str ((((l.getD (lo + i) default).Aid).Mark).Shape), .str ((((l.getD (lo + i) default).Aid).Mark).Topmark), .int .i64 ((((l.getD (lo + i) default).Aid).Light).Kind), .sl (some 2) 1 ((((l.getD (lo + i) default).Aid).Light).Group).length (fun j => [.int .i64 (((((l.getD (lo + i) default).Aid).Light).Group).getD j default)]), .str ((((l.getD (lo + i) default).Aid).Light).Letter), .str ((((l.getD (lo + i) default).Aid).Light).Colors), .int .i64 ((((l.getD (lo + i) default).Aid).Light).Period), .sl (some 180) 3 (((l.getD (lo + i) default).Aid).Sectors).length (fun j => [.int .i64 (((((l.getD (lo + i) default).Aid).Sectors).getD j default).From), .int .i64 (((((l.getD (lo + i) default).Aid).Sectors).getD j default).To), .str (((((l.getD (lo + i) default).Aid).Sectors).getD j default).Color)]), .int .i64 (((l.getD (lo + i) default).Aid).Intensity)]) = subL l lo n := List.map_congr_left fun i _ => decO_Notice (l.getD (lo + i) default)
theorem decTO_Notice (l : List Notice) (n : Nat) : decL dNotice n (fun i => [.int .i64 ((l.getD i default).Number), .int .i64 ((l.getD i default).Day), .int .i64 ((l.getD i default).Kind), .int .i64 ((l.getD i default).Target), .int .i64 (((l.getD i default).Aid).Number), .str (((l.getD i default).Aid).Name), .int .i64 ((((l.getD i default).Aid).At).X), .int .i64 ((((l.getD i default).Aid).At).Y), .int .i64 (((l.getD i default).Aid).Height), .int .i64 ((((l.getD i default).Aid).Mark).Kind), .str ((((l.getD i default).Aid).Mark).Colors), .str ((((l.getD i default).Aid).Mark).Shape), .str ((((l.getD i default).Aid).Mark).Topmark), .int .i64 ((((l.getD i default).Aid).Light).Kind), .sl (some 2) 1 ((((l.getD i default).Aid).Light).Group).length (fun j => [.int .i64 (((((l.getD i default).Aid).Light).Group).getD j default)]), .str ((((l.getD i default).Aid).Light).Letter), .str ((((l.getD i default).Aid).Light).Colors), .int .i64 ((((l.getD i default).Aid).Light).Period), .sl (some 180) 3 (((l.getD i default).Aid).Sectors).length (fun j => [.int .i64 (((((l.getD i default).Aid).Sectors).getD j default).From), .int .i64 (((((l.getD i default).Aid).Sectors).getD j default).To), .str (((((l.getD i default).Aid).Sectors).getD j default).Color)]), .int .i64 (((l.getD i default).Aid).Intensity)]) = subL l 0 n := by simp only [subL, Nat.zero_add]; exact List.map_congr_left fun i _ => decO_Notice (l.getD i default)
theorem dec_LAid (v : (List Aid)) : dLAid [.sl none 16 v.length (fun j => [.int .i64 ((v.getD j default).Number), .str ((v.getD j default).Name), .int .i64 (((v.getD j default).At).X), .int .i64 (((v.getD j default).At).Y), .int .i64 ((v.getD j default).Height), .int .i64 (((v.getD j default).Mark).Kind), .str (((v.getD j default).Mark).Colors), .str (((v.getD j default).Mark).Shape), .str (((v.getD j default).Mark).Topmark), .int .i64 (((v.getD j default).Light).Kind), .sl none 1 (((v.getD j default).Light).Group).length (fun j1 => [.int .i64 ((((v.getD j default).Light).Group).getD j1 default)]), .str (((v.getD j default).Light).Letter), .str (((v.getD j default).Light).Colors), .int .i64 (((v.getD j default).Light).Period), .sl none 3 ((v.getD j default).Sectors).length (fun j1 => [.int .i64 ((((v.getD j default).Sectors).getD j1 default).From), .int .i64 ((((v.getD j default).Sectors).getD j1 default).To), .str ((((v.getD j default).Sectors).getD j1 default).Color)]), .int .i64 ((v.getD j default).Intensity)])] = v := by simp only [dLAid, rdI, rdB, rdS, rdL, decL_Ii64, decL_Iu8, decL_S, decL_Sector, decL_Aid, decLO_Aid, decL_Correction, decLO_Correction, decL_Notice, decLO_Notice]
theorem decL_LAid (l : List (List Aid)) : decL dLAid l.length (fun i => [.sl none 16 (l.getD i default).length (fun j => [.int .i64 (((l.getD i default).getD j default).Number), .str (((l.getD i default).getD j default).Name), .int .i64 ((((l.getD i default).getD j default).At).X), .int .i64 ((((l.getD i default).getD j default).At).Y), .int .i64 (((l.getD i default).getD j default).Height), .int .i64 ((((l.getD i default).getD j default).Mark).Kind), .str ((((l.getD i default).getD j default).Mark).Colors), .str ((((l.getD i default).getD j default).Mark).Shape), .str ((((l.getD i default).getD j default).Mark).Topmark), .int .i64 ((((l.getD i default).getD j default).Light).Kind), .sl none 1 ((((l.getD i default).getD j default).Light).Group).length (fun j1 => [.int .i64 (((((l.getD i default).getD j default).Light).Group).getD j1 default)]), .str ((((l.getD i default).getD j default).Light).Letter), .str ((((l.getD i default).getD j default).Light).Colors), .int .i64 ((((l.getD i default).getD j default).Light).Period), .sl none 3 (((l.getD i default).getD j default).Sectors).length (fun j1 => [.int .i64 (((((l.getD i default).getD j default).Sectors).getD j1 default).From), .int .i64 (((((l.getD i default).getD j default).Sectors).getD j1 default).To), .str (((((l.getD i default).getD j default).Sectors).getD j1 default).Color)]), .int .i64 (((l.getD i default).getD j default).Intensity)])]) = l := (List.map_congr_left fun i _ => dec_LAid (l.getD i default)).trans (range_getD l)
theorem decS_LAid (l : List (List Aid)) (lo n : Nat) : decL dLAid n (fun i => [.sl none 16 (l.getD (lo + i) default).length (fun j => [.int .i64 (((l.getD (lo + i) default).getD j default).Number), .str (((l.getD (lo + i) default).getD j default).Name), .int .i64 ((((l.getD (lo + i) default).getD j default).At).X), .int .i64 ((((l.getD (lo + i) default).getD j default).At).Y), .int .i64 (((l.getD (lo + i) default).getD j default).Height), .int .i64 ((((l.getD (lo + i) default).getD j default).Mark).Kind), .str ((((l.getD (lo + i) default).getD j default).Mark).Colors), .str ((((l.getD (lo + i) default).getD j default).Mark).Shape), .str ((((l.getD (lo + i) default).getD j default).Mark).Topmark), .int .i64 ((((l.getD (lo + i) default).getD j default).Light).Kind), .sl none 1 ((((l.getD (lo + i) default).getD j default).Light).Group).length (fun j1 => [.int .i64 (((((l.getD (lo + i) default).getD j default).Light).Group).getD j1 default)]), .str ((((l.getD (lo + i) default).getD j default).Light).Letter), .str ((((l.getD (lo + i) default).getD j default).Light).Colors), .int .i64 ((((l.getD (lo + i) default).getD j default).Light).Period), .sl none 3 (((l.getD (lo + i) default).getD j default).Sectors).length (fun j1 => [.int .i64 (((((l.getD (lo + i) default).getD j default).Sectors).getD j1 default).From), .int .i64 (((((l.getD (lo + i) default).getD j default).Sectors).getD j1 default).To), .str (((((l.getD (lo + i) default).getD j default).Sectors).getD j1 default).Color)]), .int .i64 (((l.getD (lo + i) default).getD j default).Intensity)])]) = subL l lo n := List.map_congr_left fun i _ => dec_LAid (l.getD (lo + i) default)
theorem decT_LAid (l : List (List Aid)) (n : Nat) : decL dLAid n (fun i => [.sl none 16 (l.getD i default).length (fun j => [.int .i64 (((l.getD i default).getD j default).Number), .str (((l.getD i default).getD j default).Name), .int .i64 ((((l.getD i default).getD j default).At).X), .int .i64 ((((l.getD i default).getD j default).At).Y), .int .i64 (((l.getD i default).getD j default).Height), .int .i64 ((((l.getD i default).getD j default).Mark).Kind), .str ((((l.getD i default).getD j default).Mark).Colors), .str ((((l.getD i default).getD j default).Mark).Shape), .str ((((l.getD i default).getD j default).Mark).Topmark), .int .i64 ((((l.getD i default).getD j default).Light).Kind), .sl none 1 ((((l.getD i default).getD j default).Light).Group).length (fun j1 => [.int .i64 (((((l.getD i default).getD j default).Light).Group).getD j1 default)]), .str ((((l.getD i default).getD j default).Light).Letter), .str ((((l.getD i default).getD j default).Light).Colors), .int .i64 ((((l.getD i default).getD j default).Light).Period), .sl none 3 (((l.getD i default).getD j default).Sectors).length (fun j1 => [.int .i64 (((((l.getD i default).getD j default).Sectors).getD j1 default).From), .int .i64 (((((l.getD i default).getD j default).Sectors).getD j1 default).To), .str (((((l.getD i default).getD j default).Sectors).getD j1 default).Color)]), .int .i64 (((l.getD i default).getD j default).Intensity)])]) = subL l 0 n := by simp only [subL, Nat.zero_add]; exact List.map_congr_left fun i _ => dec_LAid (l.getD i default)
theorem decO_LAid (v : (List Aid)) : dLAid [.sl (some 63) 16 v.length (fun j => [.int .i64 ((v.getD j default).Number), .str ((v.getD j default).Name), .int .i64 (((v.getD j default).At).X), .int .i64 (((v.getD j default).At).Y), .int .i64 ((v.getD j default).Height), .int .i64 (((v.getD j default).Mark).Kind), .str (((v.getD j default).Mark).Colors), .str (((v.getD j default).Mark).Shape), .str (((v.getD j default).Mark).Topmark), .int .i64 (((v.getD j default).Light).Kind), .sl (some 2) 1 (((v.getD j default).Light).Group).length (fun j1 => [.int .i64 ((((v.getD j default).Light).Group).getD j1 default)]), .str (((v.getD j default).Light).Letter), .str (((v.getD j default).Light).Colors), .int .i64 (((v.getD j default).Light).Period), .sl (some 180) 3 ((v.getD j default).Sectors).length (fun j1 => [.int .i64 ((((v.getD j default).Sectors).getD j1 default).From), .int .i64 ((((v.getD j default).Sectors).getD j1 default).To), .str ((((v.getD j default).Sectors).getD j1 default).Color)]), .int .i64 ((v.getD j default).Intensity)])] = v := by simp only [dLAid, rdI, rdB, rdS, rdL, decL_Ii64, decL_Iu8, decL_S, decL_Sector, decL_Aid, decLO_Aid, decL_Correction, decLO_Correction, decL_Notice, decLO_Notice, decL_LAid]
theorem decLO_LAid (l : List (List Aid)) : decL dLAid l.length (fun i => [.sl (some 63) 16 (l.getD i default).length (fun j => [.int .i64 (((l.getD i default).getD j default).Number), .str (((l.getD i default).getD j default).Name), .int .i64 ((((l.getD i default).getD j default).At).X), .int .i64 ((((l.getD i default).getD j default).At).Y), .int .i64 (((l.getD i default).getD j default).Height), .int .i64 ((((l.getD i default).getD j default).Mark).Kind), .str ((((l.getD i default).getD j default).Mark).Colors), .str ((((l.getD i default).getD j default).Mark).Shape), .str ((((l.getD i default).getD j default).Mark).Topmark), .int .i64 ((((l.getD i default).getD j default).Light).Kind), .sl (some 2) 1 ((((l.getD i default).getD j default).Light).Group).length (fun j1 => [.int .i64 (((((l.getD i default).getD j default).Light).Group).getD j1 default)]), .str ((((l.getD i default).getD j default).Light).Letter), .str ((((l.getD i default).getD j default).Light).Colors), .int .i64 ((((l.getD i default).getD j default).Light).Period), .sl (some 180) 3 (((l.getD i default).getD j default).Sectors).length (fun j1 => [.int .i64 (((((l.getD i default).getD j default).Sectors).getD j1 default).From), .int .i64 (((((l.getD i default).getD j default).Sectors).getD j1 default).To), .str (((((l.getD i default).getD j default).Sectors).getD j1 default).Color)]), .int .i64 (((l.getD i default).getD j default).Intensity)])]) = l := (List.map_congr_left fun i _ => decO_LAid (l.getD i default)).trans (range_getD l)
theorem decSO_LAid (l : List (List Aid)) (lo n : Nat) : decL dLAid n (fun i => [.sl (some 63) 16 (l.getD (lo + i) default).length (fun j => [.int .i64 (((l.getD (lo + i) default).getD j default).Number), .str (((l.getD (lo + i) default).getD j default).Name), .int .i64 ((((l.getD (lo + i) default).getD j default).At).X), .int .i64 ((((l.getD (lo + i) default).getD j default).At).Y), .int .i64 (((l.getD (lo + i) default).getD j default).Height), .int .i64 ((((l.getD (lo + i) default).getD j default).Mark).Kind), .str ((((l.getD (lo + i) default).getD j default).Mark).Colors), .str ((((l.getD (lo + i) default).getD j default).Mark).Shape), .str ((((l.getD (lo + i) default).getD j default).Mark).Topmark), .int .i64 ((((l.getD (lo + i) default).getD j default).Light).Kind), .sl (some 2) 1 ((((l.getD (lo + i) default).getD j default).Light).Group).length (fun j1 => [.int .i64 (((((l.getD (lo + i) default).getD j default).Light).Group).getD j1 default)]), .str ((((l.getD (lo + i) default).getD j default).Light).Letter), .str ((((l.getD (lo + i) default).getD j default).Light).Colors), .int .i64 ((((l.getD (lo + i) default).getD j default).Light).Period), .sl (some 180) 3 (((l.getD (lo + i) default).getD j default).Sectors).length (fun j1 => [.int .i64 (((((l.getD (lo + i) default).getD j default).Sectors).getD j1 default).From), .int .i64 (((((l.getD (lo + i) default).getD j default).Sectors).getD j1 default).To), .str (((((l.getD (lo + i) default).getD j default).Sectors).getD j1 default).Color)]), .int .i64 (((l.getD (lo + i) default).getD j default).Intensity)])]) = subL l lo n := List.map_congr_left fun i _ => decO_LAid (l.getD (lo + i) default)
theorem decTO_LAid (l : List (List Aid)) (n : Nat) : decL dLAid n (fun i => [.sl (some 63) 16 (l.getD i default).length (fun j => [.int .i64 (((l.getD i default).getD j default).Number), .str (((l.getD i default).getD j default).Name), .int .i64 ((((l.getD i default).getD j default).At).X), .int .i64 ((((l.getD i default).getD j default).At).Y), .int .i64 (((l.getD i default).getD j default).Height), .int .i64 ((((l.getD i default).getD j default).Mark).Kind), .str ((((l.getD i default).getD j default).Mark).Colors), .str ((((l.getD i default).getD j default).Mark).Shape), .str ((((l.getD i default).getD j default).Mark).Topmark), .int .i64 ((((l.getD i default).getD j default).Light).Kind), .sl (some 2) 1 ((((l.getD i default).getD j default).Light).Group).length (fun j1 => [.int .i64 (((((l.getD i default).getD j default).Light).Group).getD j1 default)]), .str ((((l.getD i default).getD j default).Light).Letter), .str ((((l.getD i default).getD j default).Light).Colors), .int .i64 ((((l.getD i default).getD j default).Light).Period), .sl (some 180) 3 (((l.getD i default).getD j default).Sectors).length (fun j1 => [.int .i64 (((((l.getD i default).getD j default).Sectors).getD j1 default).From), .int .i64 (((((l.getD i default).getD j default).Sectors).getD j1 default).To), .str (((((l.getD i default).getD j default).Sectors).getD j1 default).Color)]), .int .i64 (((l.getD i default).getD j default).Intensity)])]) = subL l 0 n := by simp only [subL, Nat.zero_add]; exact List.map_congr_left fun i _ => decO_LAid (l.getD i default)
def bdS (v : List UInt8) : Prop := v.length < 1099511627776
instance : DecidablePred bdS := fun v => inferInstanceAs (Decidable (v.length < 1099511627776))
def bdMark (v : Mark) : Prop := bdS v.Colors ∧ bdS v.Shape ∧ bdS v.Topmark
instance : DecidablePred bdMark := fun v => by unfold bdMark; infer_instance
def bdLIi64 (v : (List Int)) : Prop := v.length < 1099511627776
instance : DecidablePred bdLIi64 := fun v => by unfold bdLIi64; infer_instance
def bdCharacter (v : Character) : Prop := bdLIi64 v.Group ∧ bdS v.Letter ∧ bdS v.Colors
instance : DecidablePred bdCharacter := fun v => by unfold bdCharacter; infer_instance
def bdSector (v : Sector) : Prop := bdS v.Color
instance : DecidablePred bdSector := fun v => by unfold bdSector; infer_instance
def bdLSector (v : (List Sector)) : Prop := v.length < 1099511627776 ∧ ∀ x ∈ v, bdSector x
instance : DecidablePred bdLSector := fun v => by unfold bdLSector; infer_instance
def bdAid (v : Aid) : Prop := bdS v.Name ∧ bdMark v.Mark ∧ bdCharacter v.Light ∧ bdLSector v.Sectors
instance : DecidablePred bdAid := fun v => by unfold bdAid; infer_instance
def bdNotice (v : Notice) : Prop := bdAid v.Aid
instance : DecidablePred bdNotice := fun v => by unfold bdNotice; infer_instance
def bdCorrection (v : Correction) : Prop := bdAid v.Aid
instance : DecidablePred bdCorrection := fun v => by unfold bdCorrection; infer_instance
def bdstate (v : state) : Prop := bdAid v.aid
instance : DecidablePred bdstate := fun v => by unfold bdstate; infer_instance
def bdLAid (v : (List Aid)) : Prop := v.length < 1099511627776 ∧ ∀ x ∈ v, bdAid x
instance : DecidablePred bdLAid := fun v => by unfold bdLAid; infer_instance
def bdEdition (v : Edition) : Prop := bdLAid v.Aids
instance : DecidablePred bdEdition := fun v => by unfold bdEdition; infer_instance
def bdLIu8 (v : (List Int)) : Prop := v.length < 1099511627776
instance : DecidablePred bdLIu8 := fun v => by unfold bdLIu8; infer_instance
def bdl00Src (v : l00Src) : Prop := bdLIu8 v.code
instance : DecidablePred bdl00Src := fun v => by unfold bdl00Src; infer_instance
def bwS (v : List UInt8) : Prop := v.length < 9223372036854775808
instance : DecidablePred bwS := fun v => inferInstanceAs (Decidable (v.length < 9223372036854775808))
def bwMark (v : Mark) : Prop := bwS v.Colors ∧ bwS v.Shape ∧ bwS v.Topmark
instance : DecidablePred bwMark := fun v => by unfold bwMark; infer_instance
def bwLIi64 (v : (List Int)) : Prop := v.length < 9223372036854775808
instance : DecidablePred bwLIi64 := fun v => by unfold bwLIi64; infer_instance
def bwCharacter (v : Character) : Prop := bwLIi64 v.Group ∧ bwS v.Letter ∧ bwS v.Colors
instance : DecidablePred bwCharacter := fun v => by unfold bwCharacter; infer_instance
def bwSector (v : Sector) : Prop := bwS v.Color
instance : DecidablePred bwSector := fun v => by unfold bwSector; infer_instance
def bwLSector (v : (List Sector)) : Prop := v.length < 9223372036854775808 ∧ ∀ x ∈ v, bwSector x
instance : DecidablePred bwLSector := fun v => by unfold bwLSector; infer_instance
def bwAid (v : Aid) : Prop := bwS v.Name ∧ bwMark v.Mark ∧ bwCharacter v.Light ∧ bwLSector v.Sectors
instance : DecidablePred bwAid := fun v => by unfold bwAid; infer_instance
def bwNotice (v : Notice) : Prop := bwAid v.Aid
instance : DecidablePred bwNotice := fun v => by unfold bwNotice; infer_instance
def bwCorrection (v : Correction) : Prop := bwAid v.Aid
instance : DecidablePred bwCorrection := fun v => by unfold bwCorrection; infer_instance
def bwstate (v : state) : Prop := bwAid v.aid
instance : DecidablePred bwstate := fun v => by unfold bwstate; infer_instance
def bwLAid (v : (List Aid)) : Prop := v.length < 9223372036854775808 ∧ ∀ x ∈ v, bwAid x
instance : DecidablePred bwLAid := fun v => by unfold bwLAid; infer_instance
def bwEdition (v : Edition) : Prop := bwLAid v.Aids
instance : DecidablePred bwEdition := fun v => by unfold bwEdition; infer_instance
def bwLIu8 (v : (List Int)) : Prop := v.length < 9223372036854775808
instance : DecidablePred bwLIu8 := fun v => by unfold bwLIu8; infer_instance
def bwl00Src (v : l00Src) : Prop := bwLIu8 v.code
instance : DecidablePred bwl00Src := fun v => by unfold bwl00Src; infer_instance
theorem S_lens (v : List UInt8) (h : lensL [.str v]) : bwS v := Nat.lt_succ_of_le h.1
theorem Mark_lens (v : Mark) (h : lensL (eMark v)) : bwMark v := ⟨Nat.lt_succ_of_le h.2.1, Nat.lt_succ_of_le h.2.2.1, Nat.lt_succ_of_le h.2.2.2.1⟩
theorem Character_lens (v : Character) (h : lensL (eCharacter v)) : bwCharacter v := ⟨Nat.lt_succ_of_le (lens_encL h.2.1).1, Nat.lt_succ_of_le h.2.2.1, Nat.lt_succ_of_le h.2.2.2.1⟩
theorem Character_lensO (v : Character) (h : lensL (eCharacterO v)) : bwCharacter v := ⟨Nat.lt_succ_of_le (lens_ownL h.2.1).1, Nat.lt_succ_of_le h.2.2.1, Nat.lt_succ_of_le h.2.2.2.1⟩
theorem Sector_lens (v : Sector) (h : lensL (eSector v)) : bwSector v := Nat.lt_succ_of_le h.2.2.1
theorem Aid_lens (v : Aid) (h : lensL (eAid v)) : bwAid v := ⟨Nat.lt_succ_of_le h.2.1, ⟨Nat.lt_succ_of_le h.2.2.2.2.2.2.1, Nat.lt_succ_of_le h.2.2.2.2.2.2.2.1, Nat.lt_succ_of_le h.2.2.2.2.2.2.2.2.1⟩, ⟨Nat.lt_succ_of_le (lens_encL h.2.2.2.2.2.2.2.2.2.2.1).1, Nat.lt_succ_of_le h.2.2.2.2.2.2.2.2.2.2.2.1, Nat.lt_succ_of_le h.2.2.2.2.2.2.2.2.2.2.2.2.1⟩, ⟨Nat.lt_succ_of_le (lens_encL h.2.2.2.2.2.2.2.2.2.2.2.2.2.2.1).1, fun y hy => Sector_lens y ((lens_encL h.2.2.2.2.2.2.2.2.2.2.2.2.2.2.1).2 y hy)⟩⟩
theorem Aid_lensO (v : Aid) (h : lensL (eAidO v)) : bwAid v := ⟨Nat.lt_succ_of_le h.2.1, ⟨Nat.lt_succ_of_le h.2.2.2.2.2.2.1, Nat.lt_succ_of_le h.2.2.2.2.2.2.2.1, Nat.lt_succ_of_le h.2.2.2.2.2.2.2.2.1⟩, ⟨Nat.lt_succ_of_le (lens_ownL h.2.2.2.2.2.2.2.2.2.2.1).1, Nat.lt_succ_of_le h.2.2.2.2.2.2.2.2.2.2.2.1, Nat.lt_succ_of_le h.2.2.2.2.2.2.2.2.2.2.2.2.1⟩, ⟨Nat.lt_succ_of_le (lens_ownL h.2.2.2.2.2.2.2.2.2.2.2.2.2.2.1).1, fun y hy => Sector_lens y ((lens_ownL h.2.2.2.2.2.2.2.2.2.2.2.2.2.2.1).2 y hy)⟩⟩
theorem state_lens (v : state) (h : lensL (estate v)) : bwstate v := ⟨Nat.lt_succ_of_le h.2.2.1, ⟨Nat.lt_succ_of_le h.2.2.2.2.2.2.2.1, Nat.lt_succ_of_le h.2.2.2.2.2.2.2.2.1, Nat.lt_succ_of_le h.2.2.2.2.2.2.2.2.2.1⟩, ⟨Nat.lt_succ_of_le (lens_encL h.2.2.2.2.2.2.2.2.2.2.2.1).1, Nat.lt_succ_of_le h.2.2.2.2.2.2.2.2.2.2.2.2.1, Nat.lt_succ_of_le h.2.2.2.2.2.2.2.2.2.2.2.2.2.1⟩, ⟨Nat.lt_succ_of_le (lens_encL h.2.2.2.2.2.2.2.2.2.2.2.2.2.2.2.1).1, fun y hy => Sector_lens y ((lens_encL h.2.2.2.2.2.2.2.2.2.2.2.2.2.2.2.1).2 y hy)⟩⟩
theorem LAid_lens (v : (List Aid)) (h : lensL [encL 16 eAid v]) : bwLAid v := ⟨Nat.lt_succ_of_le (lens_encL h.1).1, fun y hy => Aid_lens y ((lens_encL h.1).2 y hy)⟩
theorem fl5 (p : Nat → Prop) : (∀ i, i < 5 → p i) = (p 0 ∧ p 1 ∧ p 2 ∧ p 3 ∧ p 4) := by
 apply propext
 refine ⟨fun h => ⟨h 0 (by omega), h 1 (by omega), h 2 (by omega), h 3 (by omega), h 4 (by omega)⟩, fun h i hi => ?_⟩
 obtain ⟨h0, h1, h2, h3, h4⟩ := h
 have hc : i = 0 ∨ i = 1 ∨ i = 2 ∨ i = 3 ∨ i = 4 := by omega
 rcases hc with rfl | rfl | rfl | rfl | rfl <;> assumption
theorem decL_5 {α : Type} (d : List AV → α) (f : Nat → List AV) : decL d 5 f = [d (f 0), d (f 1), d (f 2), d (f 3), d (f 4)] := rfl
theorem fl6 (p : Nat → Prop) : (∀ i, i < 6 → p i) = (p 0 ∧ p 1 ∧ p 2 ∧ p 3 ∧ p 4 ∧ p 5) := by
 apply propext
 refine ⟨fun h => ⟨h 0 (by omega), h 1 (by omega), h 2 (by omega), h 3 (by omega), h 4 (by omega), h 5 (by omega)⟩, fun h i hi => ?_⟩
 obtain ⟨h0, h1, h2, h3, h4, h5⟩ := h
 have hc : i = 0 ∨ i = 1 ∨ i = 2 ∨ i = 3 ∨ i = 4 ∨ i = 5 := by omega
 rcases hc with rfl | rfl | rfl | rfl | rfl | rfl <;> assumption
theorem decL_6 {α : Type} (d : List AV → α) (f : Nat → List AV) : decL d 6 f = [d (f 0), d (f 1), d (f 2), d (f 3), d (f 4), d (f 5)] := rfl
theorem fl7 (p : Nat → Prop) : (∀ i, i < 7 → p i) = (p 0 ∧ p 1 ∧ p 2 ∧ p 3 ∧ p 4 ∧ p 5 ∧ p 6) := by
 apply propext
 refine ⟨fun h => ⟨h 0 (by omega), h 1 (by omega), h 2 (by omega), h 3 (by omega), h 4 (by omega), h 5 (by omega), h 6 (by omega)⟩, fun h i hi => ?_⟩
 obtain ⟨h0, h1, h2, h3, h4, h5, h6⟩ := h
 have hc : i = 0 ∨ i = 1 ∨ i = 2 ∨ i = 3 ∨ i = 4 ∨ i = 5 ∨ i = 6 := by omega
 rcases hc with rfl | rfl | rfl | rfl | rfl | rfl | rfl <;> assumption
theorem decL_7 {α : Type} (d : List AV → α) (f : Nat → List AV) : decL d 7 f = [d (f 0), d (f 1), d (f 2), d (f 3), d (f 4), d (f 5), d (f 6)] := rfl
theorem fl8 (p : Nat → Prop) : (∀ i, i < 8 → p i) = (p 0 ∧ p 1 ∧ p 2 ∧ p 3 ∧ p 4 ∧ p 5 ∧ p 6 ∧ p 7) := by
 apply propext
 refine ⟨fun h => ⟨h 0 (by omega), h 1 (by omega), h 2 (by omega), h 3 (by omega), h 4 (by omega), h 5 (by omega), h 6 (by omega), h 7 (by omega)⟩, fun h i hi => ?_⟩
 obtain ⟨h0, h1, h2, h3, h4, h5, h6, h7⟩ := h
 have hc : i = 0 ∨ i = 1 ∨ i = 2 ∨ i = 3 ∨ i = 4 ∨ i = 5 ∨ i = 6 ∨ i = 7 := by omega
 rcases hc with rfl | rfl | rfl | rfl | rfl | rfl | rfl | rfl <;> assumption
theorem decL_8 {α : Type} (d : List AV → α) (f : Nat → List AV) : decL d 8 f = [d (f 0), d (f 1), d (f 2), d (f 3), d (f 4), d (f 5), d (f 6), d (f 7)] := rfl
theorem sub_2 {α : Type} [Inhabited α] (x0 x1 : α) : subL [x0, x1] 0 2 = [x0, x1] := rfl
theorem sub_3 {α : Type} [Inhabited α] (x0 x1 x2 : α) : subL [x0, x1, x2] 0 3 = [x0, x1, x2] := rfl
theorem sub_4 {α : Type} [Inhabited α] (x0 x1 x2 x3 : α) : subL [x0, x1, x2, x3] 0 4 = [x0, x1, x2, x3] := rfl
theorem sub_5 {α : Type} [Inhabited α] (x0 x1 x2 x3 x4 : α) : subL [x0, x1, x2, x3, x4] 0 5 = [x0, x1, x2, x3, x4] := rfl
theorem sub_6 {α : Type} [Inhabited α] (x0 x1 x2 x3 x4 x5 : α) : subL [x0, x1, x2, x3, x4, x5] 0 6 = [x0, x1, x2, x3, x4, x5] := rfl
theorem sub_7 {α : Type} [Inhabited α] (x0 x1 x2 x3 x4 x5 x6 : α) : subL [x0, x1, x2, x3, x4, x5, x6] 0 7 = [x0, x1, x2, x3, x4, x5, x6] := rfl
theorem sub_8 {α : Type} [Inhabited α] (x0 x1 x2 x3 x4 x5 x6 x7 : α) : subL [x0, x1, x2, x3, x4, x5, x6, x7] 0 8 = [x0, x1, x2, x3, x4, x5, x6, x7] := rfl
theorem sub_9 {α : Type} [Inhabited α] (x0 x1 x2 x3 x4 x5 x6 x7 x8 : α) : subL [x0, x1, x2, x3, x4, x5, x6, x7, x8] 0 9 = [x0, x1, x2, x3, x4, x5, x6, x7, x8] := rfl
theorem sub_10 {α : Type} [Inhabited α] (x0 x1 x2 x3 x4 x5 x6 x7 x8 x9 : α) : subL [x0, x1, x2, x3, x4, x5, x6, x7, x8, x9] 0 10 = [x0, x1, x2, x3, x4, x5, x6, x7, x8, x9] := rfl
theorem sub_11 {α : Type} [Inhabited α] (x0 x1 x2 x3 x4 x5 x6 x7 x8 x9 x10 : α) : subL [x0, x1, x2, x3, x4, x5, x6, x7, x8, x9, x10] 0 11 = [x0, x1, x2, x3, x4, x5, x6, x7, x8, x9, x10] := rfl
theorem sub_12 {α : Type} [Inhabited α] (x0 x1 x2 x3 x4 x5 x6 x7 x8 x9 x10 x11 : α) : subL [x0, x1, x2, x3, x4, x5, x6, x7, x8, x9, x10, x11] 0 12 = [x0, x1, x2, x3, x4, x5, x6, x7, x8, x9, x10, x11] := rfl
theorem sub_13 {α : Type} [Inhabited α] (x0 x1 x2 x3 x4 x5 x6 x7 x8 x9 x10 x11 x12 : α) : subL [x0, x1, x2, x3, x4, x5, x6, x7, x8, x9, x10, x11, x12] 0 13 = [x0, x1, x2, x3, x4, x5, x6, x7, x8, x9, x10, x11, x12] := rfl
theorem sub_14 {α : Type} [Inhabited α] (x0 x1 x2 x3 x4 x5 x6 x7 x8 x9 x10 x11 x12 x13 : α) : subL [x0, x1, x2, x3, x4, x5, x6, x7, x8, x9, x10, x11, x12, x13] 0 14 = [x0, x1, x2, x3, x4, x5, x6, x7, x8, x9, x10, x11, x12, x13] := rfl
theorem sv : type_of% (
 And.intro @wGO.eq_def <|
 And.intro @wQ.eq_def <|
 And.intro @rdQ.eq_def <|
 And.intro @subL_all <|
 And.intro @fl1 <|
 And.intro @fl2 <|
 And.intro @fl3 <|
 And.intro @fl4 <|
 And.intro @decL_0 <|
 And.intro @decL_1 <|
 And.intro @decL_2 <|
 And.intro @decL_3 <|
 And.intro @decL_4 <|
 And.intro @fl5 <|
 And.intro @fl6 <|
 And.intro @fl7 <|
 And.intro @fl8 <|
 And.intro @decL_5 <|
 And.intro @decL_6 <|
 And.intro @decL_7 <|
 And.intro @decL_8 <|
 And.intro @sub_2 <|
 And.intro @sub_3 <|
 And.intro @sub_4 <|
 And.intro @sub_5 <|
 And.intro @sub_6 <|
 And.intro @sub_7 <|
 And.intro @sub_8 <|
 And.intro @sub_9 <|
 And.intro @sub_10 <|
 And.intro @sub_11 <|
 And.intro @sub_12 <|
 And.intro @sub_13 <|
 And.intro @sub_14 <|
 And.intro @eAid.eq_1 <|
 And.intro @dAid.eq_1 <|
 And.intro @Aid_eta <|
 And.intro @eAidO.eq_1 <|
 And.intro @ePoint.eq_1 <|
 And.intro @dPoint.eq_1 <|
 And.intro @Point_eta <|
 And.intro @eMark.eq_1 <|
 And.intro @dMark.eq_1 <|
 And.intro @Mark_eta <|
 And.intro @eCharacter.eq_1 <|
 And.intro @dCharacter.eq_1 <|
 And.intro @Character_eta <|
 And.intro @eCharacterO.eq_1 <|
 And.intro @eSector.eq_1 <|
 And.intro @dSector.eq_1 <|
 And.intro @Sector_eta <|
 And.intro @eNotice.eq_1 <|
 And.intro @dNotice.eq_1 <|
 And.intro @Notice_eta <|
 And.intro @eNoticeO.eq_1 <|
 And.intro @eCorrection.eq_1 <|
 And.intro @dCorrection.eq_1 <|
 And.intro @Correction_eta <|
 And.intro @eCorrectionO.eq_1 <|
 And.intro @estate.eq_1 <|
 And.intro @dstate.eq_1 <|
 And.intro @state_eta <|
 And.intro @estateO.eq_1 <|
 And.intro @eEdition.eq_1 <|
 And.intro @dEdition.eq_1 <|
 And.intro @Edition_eta <|
 And.intro @eEditionO.eq_1 <|
 And.intro @el00Src.eq_1 <|
 And.intro @dl00Src.eq_1 <|
 And.intro @l00Src_eta <|
 And.intro @el00SrcO.eq_1 <|
 And.intro @eIi64.eq_1 <|
 And.intro @dIi64.eq_1 <|
 And.intro @decL_Ii64 <|
 And.intro @decS_Ii64 <|
 And.intro @decT_Ii64 <|
 And.intro @eIu8.eq_1 <|
 And.intro @dIu8.eq_1 <|
 And.intro @decL_Iu8 <|
 And.intro @decS_Iu8 <|
 And.intro @decT_Iu8 <|
 And.intro @eLAid.eq_1 <|
 And.intro @dLAid.eq_1 <|
 And.intro @eS.eq_1 <|
 And.intro @dS.eq_1 <|
 And.intro @decL_S <|
 And.intro @decS_S <|
 And.intro @decT_S <|
 And.intro @decL_Sector <|
 And.intro @decS_Sector <|
 And.intro @decT_Sector <|
 And.intro @decL_Aid <|
 And.intro @decS_Aid <|
 And.intro @decT_Aid <|
 And.intro @decLO_Aid <|
 And.intro @decSO_Aid <|
 And.intro @decTO_Aid <|
 And.intro @decL_Correction <|
 And.intro @decS_Correction <|
 And.intro @decT_Correction <|
 And.intro @decLO_Correction <|
 And.intro @decSO_Correction <|
 And.intro @decTO_Correction <|
 And.intro @decL_Notice <|
 And.intro @decS_Notice <|
 And.intro @decT_Notice <|
 And.intro @decLO_Notice <|
 And.intro @decSO_Notice <|
 And.intro @decTO_Notice <|
 And.intro @decL_LAid <|
 And.intro @decS_LAid <|
 And.intro @decT_LAid <|
 And.intro @decLO_LAid <|
 And.intro @decSO_LAid <| @decTO_LAid) :=
 And.intro @wGO.eq_def <|
 And.intro @wQ.eq_def <|
 And.intro @rdQ.eq_def <|
 And.intro @subL_all <|
 And.intro @fl1 <|
 And.intro @fl2 <|
 And.intro @fl3 <|
 And.intro @fl4 <|
 And.intro @decL_0 <|
 And.intro @decL_1 <|
 And.intro @decL_2 <|
 And.intro @decL_3 <|
 And.intro @decL_4 <|
 And.intro @fl5 <|
 And.intro @fl6 <|
 And.intro @fl7 <|
 And.intro @fl8 <|
 And.intro @decL_5 <|
 And.intro @decL_6 <|
 And.intro @decL_7 <|
 And.intro @decL_8 <|
 And.intro @sub_2 <|
 And.intro @sub_3 <|
 And.intro @sub_4 <|
 And.intro @sub_5 <|
 And.intro @sub_6 <|
 And.intro @sub_7 <|
 And.intro @sub_8 <|
 And.intro @sub_9 <|
 And.intro @sub_10 <|
 And.intro @sub_11 <|
 And.intro @sub_12 <|
 And.intro @sub_13 <|
 And.intro @sub_14 <|
 And.intro @eAid.eq_1 <|
 And.intro @dAid.eq_1 <|
 And.intro @Aid_eta <|
 And.intro @eAidO.eq_1 <|
 And.intro @ePoint.eq_1 <|
 And.intro @dPoint.eq_1 <|
 And.intro @Point_eta <|
 And.intro @eMark.eq_1 <|
 And.intro @dMark.eq_1 <|
 And.intro @Mark_eta <|
 And.intro @eCharacter.eq_1 <|
 And.intro @dCharacter.eq_1 <|
 And.intro @Character_eta <|
 And.intro @eCharacterO.eq_1 <|
 And.intro @eSector.eq_1 <|
 And.intro @dSector.eq_1 <|
 And.intro @Sector_eta <|
 And.intro @eNotice.eq_1 <|
 And.intro @dNotice.eq_1 <|
 And.intro @Notice_eta <|
 And.intro @eNoticeO.eq_1 <|
 And.intro @eCorrection.eq_1 <|
 And.intro @dCorrection.eq_1 <|
 And.intro @Correction_eta <|
 And.intro @eCorrectionO.eq_1 <|
 And.intro @estate.eq_1 <|
 And.intro @dstate.eq_1 <|
 And.intro @state_eta <|
 And.intro @estateO.eq_1 <|
 And.intro @eEdition.eq_1 <|
 And.intro @dEdition.eq_1 <|
 And.intro @Edition_eta <|
 And.intro @eEditionO.eq_1 <|
 And.intro @el00Src.eq_1 <|
 And.intro @dl00Src.eq_1 <|
 And.intro @l00Src_eta <|
 And.intro @el00SrcO.eq_1 <|
 And.intro @eIi64.eq_1 <|
 And.intro @dIi64.eq_1 <|
 And.intro @decL_Ii64 <|
 And.intro @decS_Ii64 <|
 And.intro @decT_Ii64 <|
 And.intro @eIu8.eq_1 <|
 And.intro @dIu8.eq_1 <|
 And.intro @decL_Iu8 <|
 And.intro @decS_Iu8 <|
 And.intro @decT_Iu8 <|
 And.intro @eLAid.eq_1 <|
 And.intro @dLAid.eq_1 <|
 And.intro @eS.eq_1 <|
 And.intro @dS.eq_1 <|
 And.intro @decL_S <|
 And.intro @decS_S <|
 And.intro @decT_S <|
 And.intro @decL_Sector <|
 And.intro @decS_Sector <|
 And.intro @decT_Sector <|
 And.intro @decL_Aid <|
 And.intro @decS_Aid <|
 And.intro @decT_Aid <|
 And.intro @decLO_Aid <|
 And.intro @decSO_Aid <|
 And.intro @decTO_Aid <|
 And.intro @decL_Correction <|
 And.intro @decS_Correction <|
 And.intro @decT_Correction <|
 And.intro @decLO_Correction <|
 And.intro @decSO_Correction <|
 And.intro @decTO_Correction <|
 And.intro @decL_Notice <|
 And.intro @decS_Notice <|
 And.intro @decT_Notice <|
 And.intro @decLO_Notice <|
 And.intro @decSO_Notice <|
 And.intro @decTO_Notice <|
 And.intro @decL_LAid <|
 And.intro @decS_LAid <|
 And.intro @decT_LAid <|
 And.intro @decLO_LAid <|
 And.intro @decSO_LAid <| @decTO_LAid
theorem bdv : type_of% (And.intro @bdS.eq_1 <| And.intro @bdMark.eq_1 <| And.intro @bdLIi64.eq_1 <| And.intro @bdCharacter.eq_1 <| And.intro @bdSector.eq_1 <| And.intro @bdLSector.eq_1 <| And.intro @bdAid.eq_1 <| And.intro @bdNotice.eq_1 <| And.intro @bdCorrection.eq_1 <| And.intro @bdstate.eq_1 <| And.intro @bdLAid.eq_1 <| And.intro @bdEdition.eq_1 <| And.intro @bdLIu8.eq_1 <| And.intro @bdl00Src.eq_1 <| And.intro @bwS.eq_1 <| And.intro @bwMark.eq_1 <| And.intro @bwLIi64.eq_1 <| And.intro @bwCharacter.eq_1 <| And.intro @bwSector.eq_1 <| And.intro @bwLSector.eq_1 <| And.intro @bwAid.eq_1 <| And.intro @bwNotice.eq_1 <| And.intro @bwCorrection.eq_1 <| And.intro @bwstate.eq_1 <| And.intro @bwLAid.eq_1 <| And.intro @bwEdition.eq_1 <| And.intro @bwLIu8.eq_1 <| And.intro @bwl00Src.eq_1 <| @Nat.le_refl) :=
 And.intro @bdS.eq_1 <| And.intro @bdMark.eq_1 <| And.intro @bdLIi64.eq_1 <| And.intro @bdCharacter.eq_1 <| And.intro @bdSector.eq_1 <| And.intro @bdLSector.eq_1 <| And.intro @bdAid.eq_1 <| And.intro @bdNotice.eq_1 <| And.intro @bdCorrection.eq_1 <| And.intro @bdstate.eq_1 <| And.intro @bdLAid.eq_1 <| And.intro @bdEdition.eq_1 <| And.intro @bdLIu8.eq_1 <| And.intro @bdl00Src.eq_1 <| And.intro @bwS.eq_1 <| And.intro @bwMark.eq_1 <| And.intro @bwLIi64.eq_1 <| And.intro @bwCharacter.eq_1 <| And.intro @bwSector.eq_1 <| And.intro @bwLSector.eq_1 <| And.intro @bwAid.eq_1 <| And.intro @bwNotice.eq_1 <| And.intro @bwCorrection.eq_1 <| And.intro @bwstate.eq_1 <| And.intro @bwLAid.eq_1 <| And.intro @bwEdition.eq_1 <| And.intro @bwLIu8.eq_1 <| And.intro @bwl00Src.eq_1 <| @Nat.le_refl
structure SrcOk (n : Int) (s : l00Src) : Prop where
 lo : 0 ≤ s.at_
 hi : s.at_ ≤ n
 by_ : ∀ v ∈ s.code, 0 ≤ v ∧ v ≤ 255
theorem SrcOk.mono {n m : Int} {s : l00Src} (h : SrcOk n s) (hm : n ≤ m) : SrcOk m s := ⟨h.lo, Int.le_trans h.hi hm, h.by_⟩
end Go.Ab
