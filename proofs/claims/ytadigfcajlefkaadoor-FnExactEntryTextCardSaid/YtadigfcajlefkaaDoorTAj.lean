/- A part of a proof: walks of functions and lemmas of our own. No conditions. -/
import Derived.Test.YtadigfcajlefkaaDoorTAg
import Derived.KernelRfl
import Derived.Lib.LaidTab
import Derived.Lib.ItoaNum
import Derived.Test.YtadigfcajlefkaaDoorRows
import Derived.Test.YtadigfcajlefkaaDoorProg
set_option linter.unusedSectionVars false
set_option linter.unusedVariables false
set_option linter.unusedSimpArgs false
namespace Go.Ab
open Go Go.Proofs
def tn0 : String := (Go.Proofs.YtadigfcajlefkaaDoor.Rows.fnExactVisitTextRow.named.getD 0 default)
def tabOk (w : World) : Prop := Go.Lib.TabIs Tryd.prog w tn0 .u64 Go.Lib.pow10Tab
theorem g0 : Tryd.prog.globalNamed tn0 = some 0 := by kernel_rfl
instance inv0 : Inv := ⟨tabOk, fun b => b = 0, fun w h b hb => by
    subst hb
    unfold tabOk Go.Lib.TabIs World.var? at h
    rw [g0] at h
    simp only [Option.bind_some] at h
    by_cases hl : 0 < w.heap.size
    · exact hl
    · rw [Array.getElem?_eq_none (by omega)] at h
      simp at h, fun w w' h ho hb => by
    unfold tabOk Go.Lib.TabIs World.var? at h ⊢
    rw [g0] at h ⊢
    simp only [Option.bind_some] at h ⊢
    rw [hb 0 rfl]
    exact h⟩
def wGO {α : Type} (e : α → List AV) (d : List AV → α) : AV → Prop
  | .agg cs => simOL cs (e (d cs))
  | _ => False
theorem wGO_sim {α : Type} [Inhabited α] {e : α → List AV} {d : List AV → α} {a : AV} (h : wGO e d a) : simO a (.agg (e (rdG d a))) := by
  cases a <;> simp_all [wGO, rdG, simO]
def rdQ {α : Type} [Inhabited α] (d : List AV → α) : AV → α
  | .op cs => d cs
  | _ => default
def wQ {α : Type} (e : α → List AV) (d : List AV → α) : AV → Prop
  | .op cs => cs = e (d cs) ∨ simOL cs (e (d cs))
  | _ => False
theorem wQ_sim {α : Type} [Inhabited α] {e : α → List AV} {d : List AV → α} {a : AV} (h : wQ e d a) : simO a (.op (e (rdQ d a))) := by
  cases a with
  | op cs =>
    simp only [wQ] at h
    simp only [rdQ, simO]
    rcases h with h | h
    · rw [← h]; exact simOL_refl _
    · exact h
  | _ => simp [wQ] at h
def G : Env := [(2, ⟨.int .i64, 1, 8, [.int .i64 0], true⟩),
  (3, ⟨.int .i64, 1, 8, [.int .i64 0], true⟩),
  (4, ⟨.bool, 1, 1, [.bool false], true⟩),
  (5, ⟨.int .u8, 1, 1, [.int .u8 0], true⟩),
  (9, ⟨.string, 1, 16, [.str []], true⟩),
  (23, ⟨.struct [(0, 2), (1, 2), (2, 2)] true, 3, 24, [.int .i64 0, .int .i64 0, .int .i64 0], true⟩),
  (25, ⟨.struct [(0, 2), (1, 2), (2, 2)] true, 3, 24, [.int .i64 0, .int .i64 0, .int .i64 0], true⟩),
  (29, ⟨.struct [(0, 2), (1, 9), (2, 2)] true, 3, 32, [.int .i64 0, .str [], .int .i64 0], true⟩),
  (32, ⟨.struct [(0, 2), (1, 9), (2, 2)] true, 3, 32, [.int .i64 0, .str [], .int .i64 0], true⟩),
  (50, ⟨.slice 5, 1, 24, [.nils], true⟩),
  (63, ⟨.array 12 2, 12, 96, [.int .i64 0, .int .i64 0, .int .i64 0, .int .i64 0, .int .i64 0, .int .i64 0, .int .i64 0, .int .i64 0, .int .i64 0, .int .i64 0, .int .i64 0, .int .i64 0], true⟩)]
theorem G_ok : TyOk Tryd.prog G := by unfold TyOk; kernel_rfl
theorem gv : tget G 2 = some ⟨.int .i64, 1, 8, [.int .i64 0], true⟩ ∧
  tget G 3 = some ⟨.int .i64, 1, 8, [.int .i64 0], true⟩ ∧
  tget G 4 = some ⟨.bool, 1, 1, [.bool false], true⟩ ∧
  tget G 5 = some ⟨.int .u8, 1, 1, [.int .u8 0], true⟩ ∧
  tget G 9 = some ⟨.string, 1, 16, [.str []], true⟩ ∧
  tget G 23 = some ⟨.struct [(0, 2), (1, 2), (2, 2)] true, 3, 24, [.int .i64 0, .int .i64 0, .int .i64 0], true⟩ ∧
  tget G 25 = some ⟨.struct [(0, 2), (1, 2), (2, 2)] true, 3, 24, [.int .i64 0, .int .i64 0, .int .i64 0], true⟩ ∧
  tget G 29 = some ⟨.struct [(0, 2), (1, 9), (2, 2)] true, 3, 32, [.int .i64 0, .str [], .int .i64 0], true⟩ ∧
  tget G 32 = some ⟨.struct [(0, 2), (1, 9), (2, 2)] true, 3, 32, [.int .i64 0, .str [], .int .i64 0], true⟩ ∧
  tget G 50 = some ⟨.slice 5, 1, 24, [.nils], true⟩ ∧
  tget G 63 = some ⟨.array 12 2, 12, 96, [.int .i64 0, .int .i64 0, .int .i64 0, .int .i64 0, .int .i64 0, .int .i64 0, .int .i64 0, .int .i64 0, .int .i64 0, .int .i64 0, .int .i64 0, .int .i64 0], true⟩ := by
  and_intros <;> rfl
theorem mixed : Tryd.prog.follows .mixedOrders = true := by kernel_rfl
def eIu8 (v : Int) : List AV := [.int .u8 v]
def dIu8 : List AV → Int
  | [c] => rdI c
  | _ => default
structure Visit where
  Aid : Int
  Every : Int
  Last : Int
  deriving Inhabited, DecidableEq
def eVisit (v : Visit) : List AV := [.int .i64 v.Aid, .int .i64 v.Every, .int .i64 v.Last]
def dVisit : List AV → Visit
  | [c0, c1, c2] => ⟨rdI c0, rdI c1, rdI c2⟩
  | _ => default
theorem Visit_eta (v : Visit) : Visit.mk v.Aid v.Every v.Last = v := rfl
structure Entry where
  Day : Int
  Item : (List UInt8)
  Amount : Int
  deriving Inhabited, DecidableEq
def eEntry (v : Entry) : List AV := [.int .i64 v.Day, .str v.Item, .int .i64 v.Amount]
def dEntry : List AV → Entry
  | [c0, c1, c2] => ⟨rdI c0, rdS c1, rdI c2⟩
  | _ => default
theorem Entry_eta (v : Entry) : Entry.mk v.Day v.Item v.Amount = v := rfl
theorem decL_Iu8 (l : List Int) : decL dIu8 l.length (fun i => [.int .u8 (l.getD i default)]) = l := range_getD l
theorem decS_Iu8 (l : List Int) (lo n : Nat) : decL dIu8 n (fun i => [.int .u8 (l.getD (lo + i) default)]) = subL l lo n := rfl
theorem decT_Iu8 (l : List Int) (n : Nat) : decL dIu8 n (fun i => [.int .u8 (l.getD i default)]) = subL l 0 n := by simp only [subL, Nat.zero_add]; rfl
def bdS (v : List UInt8) : Prop := v.length < 1099511627776
instance : DecidablePred bdS := fun v => inferInstanceAs (Decidable (v.length < 1099511627776))
def bdEntry (v : Entry) : Prop := bdS v.Item
instance : DecidablePred bdEntry := fun v => by unfold bdEntry; infer_instance
def bwS (v : List UInt8) : Prop := v.length < 9223372036854775808
instance : DecidablePred bwS := fun v => inferInstanceAs (Decidable (v.length < 9223372036854775808))
def bwEntry (v : Entry) : Prop := bwS v.Item
instance : DecidablePred bwEntry := fun v => by unfold bwEntry; infer_instance
theorem S_lens (v : List UInt8) (h : lensL [.str v]) : bwS v := Nat.lt_succ_of_le h.1
theorem Entry_lens (v : Entry) (h : lensL (eEntry v)) : bwEntry v := Nat.lt_succ_of_le h.2.1
theorem sv : type_of% (
  And.intro @wGO.eq_def <|
  And.intro @wQ.eq_def <|
  And.intro @rdQ.eq_def <|
  And.intro @subL_all <|
  And.intro @fl1 <|
  And.intro @fl2 <|
  And.intro @fl3 <|
  And.intro @fl4 <|
  And.intro @decL_0 <|
  And.intro @decL_1 <|
  And.intro @decL_2 <|
  And.intro @decL_3 <|
  And.intro @decL_4 <|
  And.intro @eVisit.eq_1 <|
  And.intro @dVisit.eq_1 <|
  And.intro @Visit_eta <|
  And.intro @eEntry.eq_1 <|
  And.intro @dEntry.eq_1 <|
  And.intro @Entry_eta <|
  And.intro @eIu8.eq_1 <|
  And.intro @dIu8.eq_1 <|
  And.intro @decL_Iu8 <|
  And.intro @decS_Iu8 <| @decT_Iu8) :=
  And.intro @wGO.eq_def <|
  And.intro @wQ.eq_def <|
  And.intro @rdQ.eq_def <|
  And.intro @subL_all <|
  And.intro @fl1 <|
  And.intro @fl2 <|
  And.intro @fl3 <|
  And.intro @fl4 <|
  And.intro @decL_0 <|
  And.intro @decL_1 <|
  And.intro @decL_2 <|
  And.intro @decL_3 <|
  And.intro @decL_4 <|
  And.intro @eVisit.eq_1 <|
  And.intro @dVisit.eq_1 <|
  And.intro @Visit_eta <|
  And.intro @eEntry.eq_1 <|
  And.intro @dEntry.eq_1 <|
  And.intro @Entry_eta <|
  And.intro @eIu8.eq_1 <|
  And.intro @dIu8.eq_1 <|
  And.intro @decL_Iu8 <|
  And.intro @decS_Iu8 <| @decT_Iu8
theorem bdv : type_of% (And.intro @bdS.eq_1 <| And.intro @bdEntry.eq_1 <| And.intro @bwS.eq_1 <| And.intro @bwEntry.eq_1 <| @Nat.le_refl) :=
  And.intro @bdS.eq_1 <| And.intro @bdEntry.eq_1 <| And.intro @bwS.eq_1 <| And.intro @bwEntry.eq_1 <| @Nat.le_refl
theorem tdiv10 (x : Int) : (0 ≤ x ∧ x.tdiv 10 = x / 10) ∨ (x < 0 ∧ x.tdiv 10 = -((-x) / 10)) := by
  by_cases h : 0 ≤ x
  · exact .inl ⟨h, Int.tdiv_eq_ediv_of_nonneg h⟩
  · refine .inr ⟨by omega, ?_⟩
    have h2 := Int.neg_tdiv (a := x) (b := 10)
    rw [Int.tdiv_eq_ediv_of_nonneg (show 0 ≤ -x by omega)] at h2
    omega
end Go.Ab
