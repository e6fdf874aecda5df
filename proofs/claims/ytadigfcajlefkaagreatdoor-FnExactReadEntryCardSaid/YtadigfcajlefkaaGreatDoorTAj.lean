/- A part of a proof: walks of functions and lemmas of our own. No conditions. -/
import Derived.Test.YtadigfcajlefkaaGreatDoorTAg
import Derived.KernelRfl
import Derived.Lib.LaidTab
import Derived.Lib.ItoaNum
import Derived.Test.YtadigfcajlefkaaGreatDoorRows
import Derived.Test.YtadigfcajlefkaaGreatDoorProg
set_option linter.unusedSectionVars false
set_option linter.unusedVariables false
set_option linter.unusedSimpArgs false
namespace Go.Ab
open Go Go.Proofs
def tn0 : String := (Go.Proofs.YtadigfcajlefkaaGreatDoor.Rows.fnBookingsRow.named.getD 0 default)
def tabOk (w : World) : Prop := (Go.Lib.TabIs Tryz.prog w tn0 .u64 Go.Lib.pow10Tab ∧ ∃ m, w.cell? ⟨0, 0, none⟩ = some (.int .i64 m)) ∧ (∃ te pe, w.cell? ⟨1, 0, none⟩ = some (.iface te pe)) ∧ ∃ te pe, w.cell? ⟨2, 0, none⟩ = some (.iface te pe)
theorem g0 : Tryz.prog.globalNamed tn0 = some 3 := by kernel_rfl
theorem tab_inside {w : World} (h : tabOk w) : 3 < w.heap.size := by
  have h := h.1.1
  unfold Go.Lib.TabIs World.var? at h
  rw [g0] at h
  simp only [Option.bind_some] at h
  by_cases hl : 3 < w.heap.size
  · exact hl
  · rw [Array.getElem?_eq_none (by omega)] at h
    simp at h
theorem cell_block {w w' : World} {b : Nat} (h : w'.heap[b]? = w.heap[b]?) : w'.cell? ⟨b, 0, none⟩ = w.cell? ⟨b, 0, none⟩ := by
  unfold World.cell?
  simp only [h]
instance inv0 : Inv := ⟨tabOk, fun b => b ≤ 3, fun w h b hb => by have := tab_inside h; omega, fun w w' h ho hb => by
    obtain ⟨⟨h1, h2⟩, h3, h4⟩ := h
    refine ⟨⟨?_, by rw [cell_block (hb 0 (by omega))]; exact h2⟩, by rw [cell_block (hb 1 (by omega))]; exact h3, by rw [cell_block (hb 2 (by omega))]; exact h4⟩
    unfold Go.Lib.TabIs World.var? at h1 ⊢
    rw [g0] at h1 ⊢
    simp only [Option.bind_some] at h1 ⊢
    rw [hb 3 (by omega)]
    exact h1⟩
def wGO {α : Type} (e : α → List AV) (d : List AV → α) : AV → Prop
  | .agg cs => simOL cs (e (d cs))
  | _ => False
theorem wGO_sim {α : Type} [Inhabited α] {e : α → List AV} {d : List AV → α} {a : AV} (h : wGO e d a) : simO a (.agg (e (rdG d a))) := by
  cases a <;> simp_all [wGO, rdG, simO]
def rdQ {α : Type} [Inhabited α] (d : List AV → α) : AV → α
  | .op cs => d cs
  | _ => default
def wQ {α : Type} (e : α → List AV) (d : List AV → α) : AV → Prop
  | .op cs => cs = e (d cs) ∨ simOL cs (e (d cs))
  | _ => False
theorem wQ_sim {α : Type} [Inhabited α] {e : α → List AV} {d : List AV → α} {a : AV} (h : wQ e d a) : simO a (.op (e (rdQ d a))) := by
  cases a with
  | op cs =>
    simp only [wQ] at h
    simp only [rdQ, simO]
    rcases h with h | h
    · rw [← h]; exact simOL_refl _
    · exact h
  | _ => simp [wQ] at h
def G : Env := [(2, ⟨.int .i64, 1, 8, [.int .i64 0], true⟩),
  (3, ⟨.int .i64, 1, 8, [.int .i64 0], true⟩),
  (4, ⟨.bool, 1, 1, [.bool false], true⟩),
  (5, ⟨.int .u8, 1, 1, [.int .u8 0], true⟩),
  (9, ⟨.string, 1, 16, [.str []], true⟩),
  (33, ⟨.struct [(0, 2), (1, 9), (2, 2)] true, 3, 32, [.int .i64 0, .str [], .int .i64 0], true⟩),
  (57, ⟨.slice 9, 1, 24, [.nils], true⟩),
  (147, ⟨.array 12 2, 12, 96, [.int .i64 0, .int .i64 0, .int .i64 0, .int .i64 0, .int .i64 0, .int .i64 0, .int .i64 0, .int .i64 0, .int .i64 0, .int .i64 0, .int .i64 0, .int .i64 0], true⟩)]
theorem G_ok : TyOk Tryz.prog G := by unfold TyOk; kernel_rfl
theorem gv : tget G 2 = some ⟨.int .i64, 1, 8, [.int .i64 0], true⟩ ∧
  tget G 3 = some ⟨.int .i64, 1, 8, [.int .i64 0], true⟩ ∧
  tget G 4 = some ⟨.bool, 1, 1, [.bool false], true⟩ ∧
  tget G 5 = some ⟨.int .u8, 1, 1, [.int .u8 0], true⟩ ∧
  tget G 9 = some ⟨.string, 1, 16, [.str []], true⟩ ∧
  tget G 33 = some ⟨.struct [(0, 2), (1, 9), (2, 2)] true, 3, 32, [.int .i64 0, .str [], .int .i64 0], true⟩ ∧
  tget G 57 = some ⟨.slice 9, 1, 24, [.nils], true⟩ ∧
  tget G 147 = some ⟨.array 12 2, 12, 96, [.int .i64 0, .int .i64 0, .int .i64 0, .int .i64 0, .int .i64 0, .int .i64 0, .int .i64 0, .int .i64 0, .int .i64 0, .int .i64 0, .int .i64 0, .int .i64 0], true⟩ := by
  and_intros <;> rfl
theorem mixed : Tryz.prog.follows .mixedOrders = true := by kernel_rfl
def eS (v : (List UInt8)) : List AV := [.str v]
def dS : List AV → (List UInt8)
  | [c] => rdS c
  | _ => default
structure Entry where
  Day : Int
  Item : (List UInt8)
  Amount : Int
  deriving Inhabited, DecidableEq
def eEntry (v : Entry) : List AV := [.int .i64 v.Day, .str v.Item, .int .i64 v.Amount]
def dEntry : List AV → Entry
  | [c0, c1, c2] => ⟨rdI c0, rdS c1, rdI c2⟩
  | _ => default
theorem Entry_eta (v : Entry) : Entry.mk v.Day v.Item v.Amount = v := rfl
theorem decL_S (l : List (List UInt8)) : decL dS l.length (fun i => [.str (l.getD i default)]) = l := range_getD l
theorem decS_S (l : List (List UInt8)) (lo n : Nat) : decL dS n (fun i => [.str (l.getD (lo + i) default)]) = subL l lo n := rfl
theorem decT_S (l : List (List UInt8)) (n : Nat) : decL dS n (fun i => [.str (l.getD i default)]) = subL l 0 n := by simp only [subL, Nat.zero_add]; rfl
def bdS (v : List UInt8) : Prop := v.length < 1099511627776
instance : DecidablePred bdS := fun v => inferInstanceAs (Decidable (v.length < 1099511627776))
def bdEntry (v : Entry) : Prop := bdS v.Item
instance : DecidablePred bdEntry := fun v => by unfold bdEntry; infer_instance
def bwS (v : List UInt8) : Prop := v.length < 9223372036854775808
instance : DecidablePred bwS := fun v => inferInstanceAs (Decidable (v.length < 9223372036854775808))
def bwEntry (v : Entry) : Prop := bwS v.Item
instance : DecidablePred bwEntry := fun v => by unfold bwEntry; infer_instance
theorem S_lens (v : List UInt8) (h : lensL [.str v]) : bwS v := Nat.lt_succ_of_le h.1
theorem Entry_lens (v : Entry) (h : lensL (eEntry v)) : bwEntry v := Nat.lt_succ_of_le h.2.1
theorem sv : type_of% (
  And.intro @wGO.eq_def <|
  And.intro @wQ.eq_def <|
  And.intro @rdQ.eq_def <|
  And.intro @subL_all <|
  And.intro @fl1 <|
  And.intro @fl2 <|
  And.intro @fl3 <|
  And.intro @fl4 <|
  And.intro @decL_0 <|
  And.intro @decL_1 <|
  And.intro @decL_2 <|
  And.intro @decL_3 <|
  And.intro @decL_4 <|
  And.intro @eEntry.eq_1 <|
  And.intro @dEntry.eq_1 <|
  And.intro @Entry_eta <|
  And.intro @eS.eq_1 <|
  And.intro @dS.eq_1 <|
  And.intro @decL_S <|
  And.intro @decS_S <| @decT_S) :=
  And.intro @wGO.eq_def <|
  And.intro @wQ.eq_def <|
  And.intro @rdQ.eq_def <|
  And.intro @subL_all <|
  And.intro @fl1 <|
  And.intro @fl2 <|
  And.intro @fl3 <|
  And.intro @fl4 <|
  And.intro @decL_0 <|
  And.intro @decL_1 <|
  And.intro @decL_2 <|
  And.intro @decL_3 <|
  And.intro @decL_4 <|
  And.intro @eEntry.eq_1 <|
  And.intro @dEntry.eq_1 <|
  And.intro @Entry_eta <|
  And.intro @eS.eq_1 <|
  And.intro @dS.eq_1 <|
  And.intro @decL_S <|
  And.intro @decS_S <| @decT_S
theorem bdv : type_of% (And.intro @bdS.eq_1 <| And.intro @bdEntry.eq_1 <| And.intro @bwS.eq_1 <| And.intro @bwEntry.eq_1 <| @Nat.le_refl) :=
  And.intro @bdS.eq_1 <| And.intro @bdEntry.eq_1 <| And.intro @bwS.eq_1 <| And.intro @bwEntry.eq_1 <| @Nat.le_refl
theorem tdiv10 (x : Int) : (0 ≤ x ∧ x.tdiv 10 = x / 10) ∨ (x < 0 ∧ x.tdiv 10 = -((-x) / 10)) := by
  by_cases h : 0 ≤ x
  · exact .inl ⟨h, Int.tdiv_eq_ediv_of_nonneg h⟩
  · refine .inr ⟨by omega, ?_⟩
    have h2 := Int.neg_tdiv (a := x) (b := 10)
    rw [Int.tdiv_eq_ediv_of_nonneg (show 0 ≤ -x by omega)] at h2
    omega
end Go.Ab
