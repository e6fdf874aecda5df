/- A part of a proof: walks of functions and lemmas of our own. No conditions. -/
import Derived.Test.YtpakbdamggpneaaGreatDoorTAk
import Derived.Test.YtpakbdamggpneaaGreatDoorTAh
import Derived.KernelRfl
import Derived.Lib.LaidTab
import Derived.Lib.ItoaNum
import Derived.Test.YtpakbdamggpneaaGreatDoorRows
import Derived.Test.YtpakbdamggpneaaGreatDoorProg
set_option linter.unusedSectionVars false
set_option linter.unusedVariables false
set_option linter.unusedSimpArgs false
set_option maxHeartbeats 1000000
namespace Go.Ab
open Go Go.Proofs
def tn0 : String := (Go.Proofs.YtpakbdamggpneaaGreatDoor.Rows.fnBookingsRow.named.getD 0 default)
def tabOk (w : World) : Prop := (Go.Lib.TabIs Tryz.prog w tn0 .u64 Go.Lib.pow10Tab ∧ ∃ m, w.cell? ⟨0, 0, none⟩ = some (.int .i64 m)) ∧ (∃ te pe, w.cell? ⟨1, 0, none⟩ = some (.iface te pe)) ∧ ∃ te pe, w.cell? ⟨2, 0, none⟩ = some (.iface te pe)
theorem g0 : Tryz.prog.globalNamed tn0 = some 3 := by kernel_rfl
theorem tab_inside {w : World} (h : tabOk w) : 3 < w.heap.size := by
  have h := h.1.1
  unfold Go.Lib.TabIs World.var? at h
  rw [g0] at h
  simp only [Option.bind_some] at h
  by_cases hl : 3 < w.heap.size
  · exact hl
  · rw [Array.getElem?_eq_none (by omega)] at h
    simp at h
theorem cell_block {w w' : World} {b : Nat} (h : w'.heap[b]? = w.heap[b]?) : w'.cell? ⟨b, 0, none⟩ = w.cell? ⟨b, 0, none⟩ := by
  unfold World.cell?
  simp only [h]
instance inv0 : Inv := ⟨tabOk, fun b => b ≤ 3, fun w h b hb => by have := tab_inside h; omega, fun w w' h ho hb => by
    obtain ⟨⟨h1, h2⟩, h3, h4⟩ := h
    refine ⟨⟨?_, by rw [cell_block (hb 0 (by omega))]; exact h2⟩, by rw [cell_block (hb 1 (by omega))]; exact h3, by rw [cell_block (hb 2 (by omega))]; exact h4⟩
    unfold Go.Lib.TabIs World.var? at h1 ⊢
    rw [g0] at h1 ⊢
    simp only [Option.bind_some] at h1 ⊢
    rw [hb 3 (by omega)]
    exact h1⟩
def wGO {α : Type} (e : α → List AV) (d : List AV → α) : AV → Prop
  | .agg cs => simOL cs (e (d cs))
  | _ => False
theorem wGO_sim {α : Type} [Inhabited α] {e : α → List AV} {d : List AV → α} {a : AV} (h : wGO e d a) : simO a (.agg (e (rdG d a))) := by
  cases a <;> simp_all [wGO, rdG, simO]
def rdQ {α : Type} [Inhabited α] (d : List AV → α) : AV → α
  | .op cs => d cs
  | _ => default
def wQ {α : Type} (e : α → List AV) (d : List AV → α) : AV → Prop
  | .op cs => cs = e (d cs) ∨ simOL cs (e (d cs))
  | _ => False
theorem wQ_sim {α : Type} [Inhabited α] {e : α → List AV} {d : List AV → α} {a : AV} (h : wQ e d a) : simO a (.op (e (rdQ d a))) := by
  cases a with
  | op cs =>
    simp only [wQ] at h
    simp only [rdQ, simO]
    rcases h with h | h
    · rw [← h]; exact simOL_refl _
    · exact h
  | _ => simp [wQ] at h
def G : Env := [(2, ⟨.int .i64, 1, 8, [.int .i64 0], true⟩),
  (3, ⟨.int .i64, 1, 8, [.int .i64 0], true⟩),
  (4, ⟨.bool, 1, 1, [.bool false], true⟩),
  (5, ⟨.int .u8, 1, 1, [.int .u8 0], true⟩),
  (9, ⟨.string, 1, 16, [.str []], true⟩),
  (21, ⟨.int .i32, 1, 4, [.int .i32 0], true⟩),
  (22, ⟨.slice 5, 1, 24, [.nils], true⟩),
  (44, ⟨.slice 2, 1, 24, [.nils], true⟩),
  (46, ⟨.struct [(0, 2), (1, 44), (2, 9), (3, 9), (4, 2)] true, 5, 72, [.int .i64 0, .nils, .str [], .str [], .int .i64 0], true⟩),
  (57, ⟨.slice 9, 1, 24, [.nils], true⟩),
  (171, ⟨.array 26 9, 26, 416, [.str [], .str [], .str [], .str [], .str [], .str [], .str [], .str [], .str [], .str [], .str [], .str [], .str [], .str [], .str [], .str [], .str [], .str [], .str [], .str [], .str [], .str [], .str [], .str [], .str [], .str []], true⟩)]
theorem G_ok : TyOk Tryz.prog G := by unfold TyOk; kernel_rfl
theorem gv : tget G 2 = some ⟨.int .i64, 1, 8, [.int .i64 0], true⟩ ∧
  tget G 3 = some ⟨.int .i64, 1, 8, [.int .i64 0], true⟩ ∧
  tget G 4 = some ⟨.bool, 1, 1, [.bool false], true⟩ ∧
  tget G 5 = some ⟨.int .u8, 1, 1, [.int .u8 0], true⟩ ∧
  tget G 9 = some ⟨.string, 1, 16, [.str []], true⟩ ∧
  tget G 21 = some ⟨.int .i32, 1, 4, [.int .i32 0], true⟩ ∧
  tget G 22 = some ⟨.slice 5, 1, 24, [.nils], true⟩ ∧
  tget G 44 = some ⟨.slice 2, 1, 24, [.nils], true⟩ ∧
  tget G 46 = some ⟨.struct [(0, 2), (1, 44), (2, 9), (3, 9), (4, 2)] true, 5, 72, [.int .i64 0, .nils, .str [], .str [], .int .i64 0], true⟩ ∧
  tget G 57 = some ⟨.slice 9, 1, 24, [.nils], true⟩ ∧
  tget G 171 = some ⟨.array 26 9, 26, 416, [.str [], .str [], .str [], .str [], .str [], .str [], .str [], .str [], .str [], .str [], .str [], .str [], .str [], .str [], .str [], .str [], .str [], .str [], .str [], .str [], .str [], .str [], .str [], .str [], .str [], .str []], true⟩ := by
  and_intros <;> rfl
theorem mixed : Tryz.prog.follows .mixedOrders = true := by kernel_rfl
def eIi64 (v : Int) : List AV := [.int .i64 v]
def dIi64 : List AV → Int
  | [c] => rdI c
  | _ => default
def eIu8 (v : Int) : List AV := [.int .u8 v]
def dIu8 : List AV → Int
  | [c] => rdI c
  | _ => default
def eS (v : (List UInt8)) : List AV := [.str v]
def dS : List AV → (List UInt8)
  | [c] => rdS c
  | _ => default
structure Character where
  Kind : Int
  Group : (List Int)
  Letter : (List UInt8)
  Colors : (List UInt8)
  Period : Int
  deriving Inhabited, DecidableEq
def eCharacter (v : Character) : List AV := [.int .i64 v.Kind, encL 1 eIi64 v.Group, .str v.Letter, .str v.Colors, .int .i64 v.Period]
def eCharacterO (v : Character) : List AV := [.int .i64 v.Kind, ownL 2 1 eIi64 v.Group, .str v.Letter, .str v.Colors, .int .i64 v.Period]
def dCharacter : List AV → Character
  | c0 :: c1 :: c2 :: c3 :: c4 :: _ => ⟨rdI c0, rdL dIi64 c1, rdS c2, rdS c3, rdI c4⟩
  | _ => default
theorem Character_eta (v : Character) : Character.mk v.Kind v.Group v.Letter v.Colors v.Period = v := rfl
theorem decL_Ii64 (l : List Int) : decL dIi64 l.length (fun i => [.int .i64 (l.getD i default)]) = l := range_getD l
theorem decS_Ii64 (l : List Int) (lo n : Nat) : decL dIi64 n (fun i => [.int .i64 (l.getD (lo + i) default)]) = subL l lo n := rfl
theorem decT_Ii64 (l : List Int) (n : Nat) : decL dIi64 n (fun i => [.int .i64 (l.getD i default)]) = subL l 0 n := by simp only [subL, Nat.zero_add]; rfl
theorem decL_Iu8 (l : List Int) : decL dIu8 l.length (fun i => [.int .u8 (l.getD i default)]) = l := range_getD l
theorem decS_Iu8 (l : List Int) (lo n : Nat) : decL dIu8 n (fun i => [.int .u8 (l.getD (lo + i) default)]) = subL l lo n := rfl
theorem decT_Iu8 (l : List Int) (n : Nat) : decL dIu8 n (fun i => [.int .u8 (l.getD i default)]) = subL l 0 n := by simp only [subL, Nat.zero_add]; rfl
theorem decL_S (l : List (List UInt8)) : decL dS l.length (fun i => [.str (l.getD i default)]) = l := range_getD l
theorem decS_S (l : List (List UInt8)) (lo n : Nat) : decL dS n (fun i => [.str (l.getD (lo + i) default)]) = subL l lo n := rfl
theorem decT_S (l : List (List UInt8)) (n : Nat) : decL dS n (fun i => [.str (l.getD i default)]) = subL l 0 n := by simp only [subL, Nat.zero_add]; rfl
def bdS (v : List UInt8) : Prop := v.length < 1099511627776
instance : DecidablePred bdS := fun v => inferInstanceAs (Decidable (v.length < 1099511627776))
def bdLIi64 (v : (List Int)) : Prop := v.length < 1099511627776
instance : DecidablePred bdLIi64 := fun v => by unfold bdLIi64; infer_instance
def bdCharacter (v : Character) : Prop := bdLIi64 v.Group ∧ bdS v.Letter ∧ bdS v.Colors
instance : DecidablePred bdCharacter := fun v => by unfold bdCharacter; infer_instance
def bwS (v : List UInt8) : Prop := v.length < 9223372036854775808
instance : DecidablePred bwS := fun v => inferInstanceAs (Decidable (v.length < 9223372036854775808))
def bwLIi64 (v : (List Int)) : Prop := v.length < 9223372036854775808
instance : DecidablePred bwLIi64 := fun v => by unfold bwLIi64; infer_instance
def bwCharacter (v : Character) : Prop := bwLIi64 v.Group ∧ bwS v.Letter ∧ bwS v.Colors
instance : DecidablePred bwCharacter := fun v => by unfold bwCharacter; infer_instance
theorem S_lens (v : List UInt8) (h : lensL [.str v]) : bwS v := Nat.lt_succ_of_le h.1
theorem LIi64_lens (v : (List Int)) (h : lensL [encL 1 eIi64 v]) : bwLIi64 v := Nat.lt_succ_of_le (lens_encL h.1).1
theorem Character_lens (v : Character) (h : lensL (eCharacter v)) : bwCharacter v := ⟨Nat.lt_succ_of_le (lens_encL h.2.1).1, Nat.lt_succ_of_le h.2.2.1, Nat.lt_succ_of_le h.2.2.2.1⟩
theorem Character_lensO (v : Character) (h : lensL (eCharacterO v)) : bwCharacter v := ⟨Nat.lt_succ_of_le (lens_ownL h.2.1).1, Nat.lt_succ_of_le h.2.2.1, Nat.lt_succ_of_le h.2.2.2.1⟩
theorem fl5 (p : Nat → Prop) : (∀ i, i < 5 → p i) = (p 0 ∧ p 1 ∧ p 2 ∧ p 3 ∧ p 4) := by
  apply propext
  refine ⟨fun h => ⟨h 0 (by omega), h 1 (by omega), h 2 (by omega), h 3 (by omega), h 4 (by omega)⟩, fun h i hi => ?_⟩
  obtain ⟨h0, h1, h2, h3, h4⟩ := h
  have hc : i = 0 ∨ i = 1 ∨ i = 2 ∨ i = 3 ∨ i = 4 := by omega
  rcases hc with rfl | rfl | rfl | rfl | rfl <;> assumption
theorem decL_5 {α : Type} (d : List AV → α) (f : Nat → List AV) : decL d 5 f = [d (f 0), d (f 1), d (f 2), d (f 3), d (f 4)] := rfl
theorem fl6 (p : Nat → Prop) : (∀ i, i < 6 → p i) = (p 0 ∧ p 1 ∧ p 2 ∧ p 3 ∧ p 4 ∧ p 5) := by
  apply propext
  refine ⟨fun h => ⟨h 0 (by omega), h 1 (by omega), h 2 (by omega), h 3 (by omega), h 4 (by omega), h 5 (by omega)⟩, fun h i hi => ?_⟩
  obtain ⟨h0, h1, h2, h3, h4, h5⟩ := h
  have hc : i = 0 ∨ i = 1 ∨ i = 2 ∨ i = 3 ∨ i = 4 ∨ i = 5 := by omega
  rcases hc with rfl | rfl | rfl | rfl | rfl | rfl <;> assumption
theorem decL_6 {α : Type} (d : List AV → α) (f : Nat → List AV) : decL d 6 f = [d (f 0), d (f 1), d (f 2), d (f 3), d (f 4), d (f 5)] := rfl
theorem fl7 (p : Nat → Prop) : (∀ i, i < 7 → p i) = (p 0 ∧ p 1 ∧ p 2 ∧ p 3 ∧ p 4 ∧ p 5 ∧ p 6) := by
  apply propext
  refine ⟨fun h => ⟨h 0 (by omega), h 1 (by omega), h 2 (by omega), h 3 (by omega), h 4 (by omega), h 5 (by omega), h 6 (by omega)⟩, fun h i hi => ?_⟩
  obtain ⟨h0, h1, h2, h3, h4, h5, h6⟩ := h
  have hc : i = 0 ∨ i = 1 ∨ i = 2 ∨ i = 3 ∨ i = 4 ∨ i = 5 ∨ i = 6 := by omega
  rcases hc with rfl | rfl | rfl | rfl | rfl | rfl | rfl <;> assumption
theorem decL_7 {α : Type} (d : List AV → α) (f : Nat → List AV) : decL d 7 f = [d (f 0), d (f 1), d (f 2), d (f 3), d (f 4), d (f 5), d (f 6)] := rfl
theorem fl8 (p : Nat → Prop) : (∀ i, i < 8 → p i) = (p 0 ∧ p 1 ∧ p 2 ∧ p 3 ∧ p 4 ∧ p 5 ∧ p 6 ∧ p 7) := by
  apply propext
  refine ⟨fun h => ⟨h 0 (by omega), h 1 (by omega), h 2 (by omega), h 3 (by omega), h 4 (by omega), h 5 (by omega), h 6 (by omega), h 7 (by omega)⟩, fun h i hi => ?_⟩
  obtain ⟨h0, h1, h2, h3, h4, h5, h6, h7⟩ := h
  have hc : i = 0 ∨ i = 1 ∨ i = 2 ∨ i = 3 ∨ i = 4 ∨ i = 5 ∨ i = 6 ∨ i = 7 := by omega
  rcases hc with rfl | rfl | rfl | rfl | rfl | rfl | rfl | rfl <;> assumption
theorem decL_8 {α : Type} (d : List AV → α) (f : Nat → List AV) : decL d 8 f = [d (f 0), d (f 1), d (f 2), d (f 3), d (f 4), d (f 5), d (f 6), d (f 7)] := rfl
theorem sv : type_of% (
  And.intro @wGO.eq_def <|
  And.intro @wQ.eq_def <|
  And.intro @rdQ.eq_def <|
  And.intro @subL_all <|
  And.intro @fl1 <|
  And.intro @fl2 <|
  And.intro @fl3 <|
  And.intro @fl4 <|
  And.intro @decL_0 <|
  And.intro @decL_1 <|
  And.intro @decL_2 <|
  And.intro @decL_3 <|
  And.intro @decL_4 <|
  And.intro @fl5 <|
  And.intro @fl6 <|
  And.intro @fl7 <|
  And.intro @fl8 <|
  And.intro @decL_5 <|
  And.intro @decL_6 <|
  And.intro @decL_7 <|
  And.intro @decL_8 <|
  And.intro @eCharacter.eq_1 <|
  And.intro @dCharacter.eq_1 <|
  And.intro @Character_eta <|
  And.intro @eCharacterO.eq_1 <|
  And.intro @eIi64.eq_1 <|
  And.intro @dIi64.eq_1 <|
  And.intro @decL_Ii64 <|
  And.intro @decS_Ii64 <|
  And.intro @decT_Ii64 <|
  And.intro @eIu8.eq_1 <|
  And.intro @dIu8.eq_1 <|
  And.intro @decL_Iu8 <|
  And.intro @decS_Iu8 <|
  And.intro @decT_Iu8 <|
  And.intro @eS.eq_1 <|
  And.intro @dS.eq_1 <|
  And.intro @decL_S <|
  And.intro @decS_S <| @decT_S) :=
  And.intro @wGO.eq_def <|
  And.intro @wQ.eq_def <|
  And.intro @rdQ.eq_def <|
  And.intro @subL_all <|
  And.intro @fl1 <|
  And.intro @fl2 <|
  And.intro @fl3 <|
  And.intro @fl4 <|
  And.intro @decL_0 <|
  And.intro @decL_1 <|
  And.intro @decL_2 <|
  And.intro @decL_3 <|
  And.intro @decL_4 <|
  And.intro @fl5 <|
  And.intro @fl6 <|
  And.intro @fl7 <|
  And.intro @fl8 <|
  And.intro @decL_5 <|
  And.intro @decL_6 <|
  And.intro @decL_7 <|
  And.intro @decL_8 <|
  And.intro @eCharacter.eq_1 <|
  And.intro @dCharacter.eq_1 <|
  And.intro @Character_eta <|
  And.intro @eCharacterO.eq_1 <|
  And.intro @eIi64.eq_1 <|
  And.intro @dIi64.eq_1 <|
  And.intro @decL_Ii64 <|
  And.intro @decS_Ii64 <|
  And.intro @decT_Ii64 <|
  And.intro @eIu8.eq_1 <|
  And.intro @dIu8.eq_1 <|
  And.intro @decL_Iu8 <|
  And.intro @decS_Iu8 <|
  And.intro @decT_Iu8 <|
  And.intro @eS.eq_1 <|
  And.intro @dS.eq_1 <|
  And.intro @decL_S <|
  And.intro @decS_S <| @decT_S
theorem bdv : type_of% (And.intro @bdS.eq_1 <| And.intro @bdLIi64.eq_1 <| And.intro @bdCharacter.eq_1 <| And.intro @bwS.eq_1 <| And.intro @bwLIi64.eq_1 <| And.intro @bwCharacter.eq_1 <| @Nat.le_refl) :=
  And.intro @bdS.eq_1 <| And.intro @bdLIi64.eq_1 <| And.intro @bdCharacter.eq_1 <| And.intro @bwS.eq_1 <| And.intro @bwLIi64.eq_1 <| And.intro @bwCharacter.eq_1 <| @Nat.le_refl
theorem tdiv10 (x : Int) : (0 ≤ x ∧ x.tdiv 10 = x / 10) ∨ (x < 0 ∧ x.tdiv 10 = -((-x) / 10)) := by
  by_cases h : 0 ≤ x
  · exact .inl ⟨h, Int.tdiv_eq_ediv_of_nonneg h⟩
  · refine .inr ⟨by omega, ?_⟩
    have h2 := Int.neg_tdiv (a := x) (b := 10)
    rw [Int.tdiv_eq_ediv_of_nonneg (show 0 ≤ -x by omega)] at h2
    omega
end Go.Ab
