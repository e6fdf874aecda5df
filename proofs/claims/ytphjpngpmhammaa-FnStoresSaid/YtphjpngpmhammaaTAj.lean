/- A part of a proof: walks of functions and lemmas of our own. No conditions. -/
import Derived.Test.YtphjpngpmhammaaTAg
import Derived.KernelRfl
import Derived.Test.YtphjpngpmhammaaProg
set_option linter.unusedSectionVars false
set_option linter.unusedVariables false
set_option linter.unusedSimpArgs false
namespace Go.Ab
open Go Go.Proofs
instance inv0 : Inv := ⟨fun _ => True, fun _ => False, fun _ _ _ h => h.elim, fun _ _ _ _ _ => trivial⟩
def wGO {α : Type} (e : α → List AV) (d : List AV → α) : AV → Prop
  | .agg cs => simOL cs (e (d cs))
  | _ => False
theorem wGO_sim {α : Type} [Inhabited α] {e : α → List AV} {d : List AV → α} {a : AV} (h : wGO e d a) : simO a (.agg (e (rdG d a))) := by
  cases a <;> simp_all [wGO, rdG, simO]
def rdQ {α : Type} [Inhabited α] (d : List AV → α) : AV → α
  | .op cs => d cs
  | _ => default
def wQ {α : Type} (e : α → List AV) (d : List AV → α) : AV → Prop
  | .op cs => cs = e (d cs) ∨ simOL cs (e (d cs))
  | _ => False
theorem wQ_sim {α : Type} [Inhabited α] {e : α → List AV} {d : List AV → α} {a : AV} (h : wQ e d a) : simO a (.op (e (rdQ d a))) := by
  cases a with
  | op cs =>
    simp only [wQ] at h
    simp only [rdQ, simO]
    rcases h with h | h
    · rw [← h]; exact simOL_refl _
    · exact h
  | _ => simp [wQ] at h
def G : Env := [(2, ⟨.int .i64, 1, 8, [.int .i64 0], true⟩),
  (3, ⟨.int .i64, 1, 8, [.int .i64 0], true⟩),
  (4, ⟨.bool, 1, 1, [.bool false], true⟩),
  (5, ⟨.int .u8, 1, 1, [.int .u8 0], true⟩),
  (9, ⟨.string, 1, 16, [.str []], true⟩),
  (22, ⟨.slice 67, 1, 24, [.nils], true⟩),
  (23, ⟨.slice 72, 1, 24, [.nils], true⟩),
  (25, ⟨.struct [(0, 22), (1, 23)] true, 2, 48, [.nils, .nils], true⟩),
  (28, ⟨.slice 63, 1, 24, [.nils], true⟩),
  (29, ⟨.slice 66, 1, 24, [.nils], true⟩),
  (31, ⟨.struct [(0, 28), (1, 29)] true, 2, 48, [.nils, .nils], true⟩),
  (35, ⟨.slice 100, 1, 24, [.nils], true⟩),
  (37, ⟨.slice 103, 1, 24, [.nils], true⟩),
  (53, ⟨.slice 9, 1, 24, [.nils], true⟩),
  (58, ⟨.slice 5, 1, 24, [.nils], true⟩),
  (63, ⟨.struct [(0, 9), (1, 2), (2, 2)] true, 3, 32, [.str [], .int .i64 0, .int .i64 0], true⟩),
  (66, ⟨.struct [(0, 2), (1, 9), (2, 2)] true, 3, 32, [.int .i64 0, .str [], .int .i64 0], true⟩),
  (67, ⟨.struct [(0, 9), (1, 2), (2, 2)] true, 3, 32, [.str [], .int .i64 0, .int .i64 0], true⟩),
  (72, ⟨.struct [(0, 2), (1, 9), (2, 2)] true, 3, 32, [.int .i64 0, .str [], .int .i64 0], true⟩),
  (86, ⟨.slice 2, 1, 24, [.nils], true⟩),
  (100, ⟨.struct [(0, 9), (1, 9)] true, 2, 32, [.str [], .str []], true⟩),
  (103, ⟨.struct [(0, 9), (1, 9)] true, 2, 32, [.str [], .str []], true⟩),
  (144, ⟨.int .u64, 1, 8, [.int .u64 0], true⟩),
  (146, ⟨.struct [(0, 58), (1, 3), (2, 144)] true, 3, 40, [.nils, .int .i64 0, .int .u64 0], true⟩)]
theorem G_ok : TyOk Try.prog G := by unfold TyOk; kernel_rfl
theorem gv : tget G 2 = some ⟨.int .i64, 1, 8, [.int .i64 0], true⟩ ∧
  tget G 3 = some ⟨.int .i64, 1, 8, [.int .i64 0], true⟩ ∧
  tget G 4 = some ⟨.bool, 1, 1, [.bool false], true⟩ ∧
  tget G 5 = some ⟨.int .u8, 1, 1, [.int .u8 0], true⟩ ∧
  tget G 9 = some ⟨.string, 1, 16, [.str []], true⟩ ∧
  tget G 22 = some ⟨.slice 67, 1, 24, [.nils], true⟩ ∧
  tget G 23 = some ⟨.slice 72, 1, 24, [.nils], true⟩ ∧
  tget G 25 = some ⟨.struct [(0, 22), (1, 23)] true, 2, 48, [.nils, .nils], true⟩ ∧
  tget G 28 = some ⟨.slice 63, 1, 24, [.nils], true⟩ ∧
  tget G 29 = some ⟨.slice 66, 1, 24, [.nils], true⟩ ∧
  tget G 31 = some ⟨.struct [(0, 28), (1, 29)] true, 2, 48, [.nils, .nils], true⟩ ∧
  tget G 35 = some ⟨.slice 100, 1, 24, [.nils], true⟩ ∧
  tget G 37 = some ⟨.slice 103, 1, 24, [.nils], true⟩ ∧
  tget G 53 = some ⟨.slice 9, 1, 24, [.nils], true⟩ ∧
  tget G 58 = some ⟨.slice 5, 1, 24, [.nils], true⟩ ∧
  tget G 63 = some ⟨.struct [(0, 9), (1, 2), (2, 2)] true, 3, 32, [.str [], .int .i64 0, .int .i64 0], true⟩ ∧
  tget G 66 = some ⟨.struct [(0, 2), (1, 9), (2, 2)] true, 3, 32, [.int .i64 0, .str [], .int .i64 0], true⟩ ∧
  tget G 67 = some ⟨.struct [(0, 9), (1, 2), (2, 2)] true, 3, 32, [.str [], .int .i64 0, .int .i64 0], true⟩ ∧
  tget G 72 = some ⟨.struct [(0, 2), (1, 9), (2, 2)] true, 3, 32, [.int .i64 0, .str [], .int .i64 0], true⟩ ∧
  tget G 86 = some ⟨.slice 2, 1, 24, [.nils], true⟩ ∧
  tget G 100 = some ⟨.struct [(0, 9), (1, 9)] true, 2, 32, [.str [], .str []], true⟩ ∧
  tget G 103 = some ⟨.struct [(0, 9), (1, 9)] true, 2, 32, [.str [], .str []], true⟩ ∧
  tget G 144 = some ⟨.int .u64, 1, 8, [.int .u64 0], true⟩ ∧
  tget G 146 = some ⟨.struct [(0, 58), (1, 3), (2, 144)] true, 3, 40, [.nils, .int .i64 0, .int .u64 0], true⟩ := by
  and_intros <;> rfl
theorem mixed : Try.prog.follows .mixedOrders = true := by kernel_rfl
def eIi64 (v : Int) : List AV := [.int .i64 v]
def dIi64 : List AV → Int
  | [c] => rdI c
  | _ => default
def eIu8 (v : Int) : List AV := [.int .u8 v]
def dIu8 : List AV → Int
  | [c] => rdI c
  | _ => default
def eS (v : (List UInt8)) : List AV := [.str v]
def dS : List AV → (List UInt8)
  | [c] => rdS c
  | _ => default
structure Spare where
  Name : (List UInt8)
  Least : Int
  Most : Int
  deriving Inhabited, DecidableEq
def eSpare (v : Spare) : List AV := [.str v.Name, .int .i64 v.Least, .int .i64 v.Most]
def dSpare : List AV → Spare
  | [c0, c1, c2] => ⟨rdS c0, rdI c1, rdI c2⟩
  | _ => default
theorem Spare_eta (v : Spare) : Spare.mk v.Name v.Least v.Most = v := rfl
structure Entry where
  Day : Int
  Item : (List UInt8)
  Amount : Int
  deriving Inhabited, DecidableEq
def eEntry (v : Entry) : List AV := [.int .i64 v.Day, .str v.Item, .int .i64 v.Amount]
def dEntry : List AV → Entry
  | [c0, c1, c2] => ⟨rdI c0, rdS c1, rdI c2⟩
  | _ => default
theorem Entry_eta (v : Entry) : Entry.mk v.Day v.Item v.Amount = v := rfl
structure Store where
  Spares : (List Spare)
  Entries : (List Entry)
  deriving Inhabited, DecidableEq
def eStore (v : Store) : List AV := [encL 3 eSpare v.Spares, encL 3 eEntry v.Entries]
def eStoreO (v : Store) : List AV := [ownL 63 3 eSpare v.Spares, ownL 66 3 eEntry v.Entries]
def dStore : List AV → Store
  | [c0, c1] => ⟨rdL dSpare c0, rdL dEntry c1⟩
  | _ => default
theorem Store_eta (v : Store) : Store.mk v.Spares v.Entries = v := rfl
structure Item where
  Key : (List UInt8)
  Text : (List UInt8)
  deriving Inhabited, DecidableEq
def eItem (v : Item) : List AV := [.str v.Key, .str v.Text]
def dItem : List AV → Item
  | [c0, c1] => ⟨rdS c0, rdS c1⟩
  | _ => default
theorem Item_eta (v : Item) : Item.mk v.Key v.Text = v := rfl
structure l00Src where
  code : (List Int)
  at_ : Int
  seed : Int
  deriving Inhabited, DecidableEq
def el00Src (v : l00Src) : List AV := [encL 1 eIu8 v.code, .int .i64 v.at_, .int .u64 v.seed]
def el00SrcO (v : l00Src) : List AV := [ownL 5 1 eIu8 v.code, .int .i64 v.at_, .int .u64 v.seed]
def dl00Src : List AV → l00Src
  | [c0, c1, c2] => ⟨rdL dIu8 c0, rdI c1, rdI c2⟩
  | _ => default
theorem l00Src_eta (v : l00Src) : l00Src.mk v.code v.at_ v.seed = v := rfl
theorem decL_Entry (l : List Entry) : decL dEntry l.length (fun i => [.int .i64 ((l.getD i default).Day), .str ((l.getD i default).Item), .int .i64 ((l.getD i default).Amount)]) = l := range_getD l
theorem decS_Entry (l : List Entry) (lo n : Nat) : decL dEntry n (fun i => [.int .i64 ((l.getD (lo + i) default).Day), .str ((l.getD (lo + i) default).Item), .int .i64 ((l.getD (lo + i) default).Amount)]) = subL l lo n := rfl
theorem decT_Entry (l : List Entry) (n : Nat) : decL dEntry n (fun i => [.int .i64 ((l.getD i default).Day), .str ((l.getD i default).Item), .int .i64 ((l.getD i default).Amount)]) = subL l 0 n := by simp only [subL, Nat.zero_add]; rfl
theorem decL_Ii64 (l : List Int) : decL dIi64 l.length (fun i => [.int .i64 (l.getD i default)]) = l := range_getD l
theorem decS_Ii64 (l : List Int) (lo n : Nat) : decL dIi64 n (fun i => [.int .i64 (l.getD (lo + i) default)]) = subL l lo n := rfl
theorem decT_Ii64 (l : List Int) (n : Nat) : decL dIi64 n (fun i => [.int .i64 (l.getD i default)]) = subL l 0 n := by simp only [subL, Nat.zero_add]; rfl
theorem decL_Item (l : List Item) : decL dItem l.length (fun i => [.str ((l.getD i default).Key), .str ((l.getD i default).Text)]) = l := range_getD l
theorem decS_Item (l : List Item) (lo n : Nat) : decL dItem n (fun i => [.str ((l.getD (lo + i) default).Key), .str ((l.getD (lo + i) default).Text)]) = subL l lo n := rfl
theorem decT_Item (l : List Item) (n : Nat) : decL dItem n (fun i => [.str ((l.getD i default).Key), .str ((l.getD i default).Text)]) = subL l 0 n := by simp only [subL, Nat.zero_add]; rfl
theorem decL_Iu8 (l : List Int) : decL dIu8 l.length (fun i => [.int .u8 (l.getD i default)]) = l := range_getD l
theorem decS_Iu8 (l : List Int) (lo n : Nat) : decL dIu8 n (fun i => [.int .u8 (l.getD (lo + i) default)]) = subL l lo n := rfl
theorem decT_Iu8 (l : List Int) (n : Nat) : decL dIu8 n (fun i => [.int .u8 (l.getD i default)]) = subL l 0 n := by simp only [subL, Nat.zero_add]; rfl
theorem decL_S (l : List (List UInt8)) : decL dS l.length (fun i => [.str (l.getD i default)]) = l := range_getD l
theorem decS_S (l : List (List UInt8)) (lo n : Nat) : decL dS n (fun i => [.str (l.getD (lo + i) default)]) = subL l lo n := rfl
theorem decT_S (l : List (List UInt8)) (n : Nat) : decL dS n (fun i => [.str (l.getD i default)]) = subL l 0 n := by simp only [subL, Nat.zero_add]; rfl
theorem decL_Spare (l : List Spare) : decL dSpare l.length (fun i => [.str ((l.getD i default).Name), .int .i64 ((l.getD i default).Least), .int .i64 ((l.getD i default).Most)]) = l := range_getD l
theorem decS_Spare (l : List Spare) (lo n : Nat) : decL dSpare n (fun i => [.str ((l.getD (lo + i) default).Name), .int .i64 ((l.getD (lo + i) default).Least), .int .i64 ((l.getD (lo + i) default).Most)]) = subL l lo n := rfl
theorem decT_Spare (l : List Spare) (n : Nat) : decL dSpare n (fun i => [.str ((l.getD i default).Name), .int .i64 ((l.getD i default).Least), .int .i64 ((l.getD i default).Most)]) = subL l 0 n := by simp only [subL, Nat.zero_add]; rfl
def bdS (v : List UInt8) : Prop := v.length < 1099511627776
instance : DecidablePred bdS := fun v => inferInstanceAs (Decidable (v.length < 1099511627776))
def bdSpare (v : Spare) : Prop := bdS v.Name
instance : DecidablePred bdSpare := fun v => by unfold bdSpare; infer_instance
def bdLSpare (v : (List Spare)) : Prop := v.length < 1099511627776 ∧ ∀ x ∈ v, bdSpare x
instance : DecidablePred bdLSpare := fun v => by unfold bdLSpare; infer_instance
def bdEntry (v : Entry) : Prop := bdS v.Item
instance : DecidablePred bdEntry := fun v => by unfold bdEntry; infer_instance
def bdLEntry (v : (List Entry)) : Prop := v.length < 1099511627776 ∧ ∀ x ∈ v, bdEntry x
instance : DecidablePred bdLEntry := fun v => by unfold bdLEntry; infer_instance
def bdStore (v : Store) : Prop := bdLSpare v.Spares ∧ bdLEntry v.Entries
instance : DecidablePred bdStore := fun v => by unfold bdStore; infer_instance
def bdItem (v : Item) : Prop := bdS v.Key ∧ bdS v.Text
instance : DecidablePred bdItem := fun v => by unfold bdItem; infer_instance
def bdLIu8 (v : (List Int)) : Prop := v.length < 1099511627776
instance : DecidablePred bdLIu8 := fun v => by unfold bdLIu8; infer_instance
def bdl00Src (v : l00Src) : Prop := bdLIu8 v.code
instance : DecidablePred bdl00Src := fun v => by unfold bdl00Src; infer_instance
def bwS (v : List UInt8) : Prop := v.length < 9223372036854775808
instance : DecidablePred bwS := fun v => inferInstanceAs (Decidable (v.length < 9223372036854775808))
def bwSpare (v : Spare) : Prop := bwS v.Name
instance : DecidablePred bwSpare := fun v => by unfold bwSpare; infer_instance
def bwLSpare (v : (List Spare)) : Prop := v.length < 9223372036854775808 ∧ ∀ x ∈ v, bwSpare x
instance : DecidablePred bwLSpare := fun v => by unfold bwLSpare; infer_instance
def bwEntry (v : Entry) : Prop := bwS v.Item
instance : DecidablePred bwEntry := fun v => by unfold bwEntry; infer_instance
def bwLEntry (v : (List Entry)) : Prop := v.length < 9223372036854775808 ∧ ∀ x ∈ v, bwEntry x
instance : DecidablePred bwLEntry := fun v => by unfold bwLEntry; infer_instance
def bwStore (v : Store) : Prop := bwLSpare v.Spares ∧ bwLEntry v.Entries
instance : DecidablePred bwStore := fun v => by unfold bwStore; infer_instance
def bwItem (v : Item) : Prop := bwS v.Key ∧ bwS v.Text
instance : DecidablePred bwItem := fun v => by unfold bwItem; infer_instance
def bwLIu8 (v : (List Int)) : Prop := v.length < 9223372036854775808
instance : DecidablePred bwLIu8 := fun v => by unfold bwLIu8; infer_instance
def bwl00Src (v : l00Src) : Prop := bwLIu8 v.code
instance : DecidablePred bwl00Src := fun v => by unfold bwl00Src; infer_instance
theorem S_lens (v : List UInt8) (h : lensL [.str v]) : bwS v := Nat.lt_succ_of_le h.1
theorem Spare_lens (v : Spare) (h : lensL (eSpare v)) : bwSpare v := Nat.lt_succ_of_le h.1
theorem LSpare_lens (v : (List Spare)) (h : lensL [encL 3 eSpare v]) : bwLSpare v := ⟨Nat.lt_succ_of_le (lens_encL h.1).1, fun y hy => Spare_lens y ((lens_encL h.1).2 y hy)⟩
theorem Entry_lens (v : Entry) (h : lensL (eEntry v)) : bwEntry v := Nat.lt_succ_of_le h.2.1
theorem LEntry_lens (v : (List Entry)) (h : lensL [encL 3 eEntry v]) : bwLEntry v := ⟨Nat.lt_succ_of_le (lens_encL h.1).1, fun y hy => Entry_lens y ((lens_encL h.1).2 y hy)⟩
theorem Store_lens (v : Store) (h : lensL (eStore v)) : bwStore v := ⟨⟨Nat.lt_succ_of_le (lens_encL h.1).1, fun y hy => Spare_lens y ((lens_encL h.1).2 y hy)⟩, ⟨Nat.lt_succ_of_le (lens_encL h.2.1).1, fun y hy => Entry_lens y ((lens_encL h.2.1).2 y hy)⟩⟩
theorem Store_lensO (v : Store) (h : lensL (eStoreO v)) : bwStore v := ⟨⟨Nat.lt_succ_of_le (lens_ownL h.1).1, fun y hy => Spare_lens y ((lens_ownL h.1).2 y hy)⟩, ⟨Nat.lt_succ_of_le (lens_ownL h.2.1).1, fun y hy => Entry_lens y ((lens_ownL h.2.1).2 y hy)⟩⟩
theorem Item_lens (v : Item) (h : lensL (eItem v)) : bwItem v := ⟨Nat.lt_succ_of_le h.1, Nat.lt_succ_of_le h.2.1⟩
theorem LIu8_lens (v : (List Int)) (h : lensL [encL 1 eIu8 v]) : bwLIu8 v := Nat.lt_succ_of_le (lens_encL h.1).1
theorem l00Src_lens (v : l00Src) (h : lensL (el00Src v)) : bwl00Src v := Nat.lt_succ_of_le (lens_encL h.1).1
theorem l00Src_lensO (v : l00Src) (h : lensL (el00SrcO v)) : bwl00Src v := Nat.lt_succ_of_le (lens_ownL h.1).1
theorem fl5 (p : Nat → Prop) : (∀ i, i < 5 → p i) = (p 0 ∧ p 1 ∧ p 2 ∧ p 3 ∧ p 4) := by
  apply propext
  refine ⟨fun h => ⟨h 0 (by omega), h 1 (by omega), h 2 (by omega), h 3 (by omega), h 4 (by omega)⟩, fun h i hi => ?_⟩
  obtain ⟨h0, h1, h2, h3, h4⟩ := h
  match i, hi with
  | 0, _ => exact h0
  | 1, _ => exact h1
  | 2, _ => exact h2
  | 3, _ => exact h3
  | 4, _ => exact h4
theorem decL_5 {α : Type} (d : List AV → α) (f : Nat → List AV) : decL d 5 f = [d (f 0), d (f 1), d (f 2), d (f 3), d (f 4)] := rfl
theorem fl6 (p : Nat → Prop) : (∀ i, i < 6 → p i) = (p 0 ∧ p 1 ∧ p 2 ∧ p 3 ∧ p 4 ∧ p 5) := by
  apply propext
  refine ⟨fun h => ⟨h 0 (by omega), h 1 (by omega), h 2 (by omega), h 3 (by omega), h 4 (by omega), h 5 (by omega)⟩, fun h i hi => ?_⟩
  obtain ⟨h0, h1, h2, h3, h4, h5⟩ := h
  match i, hi with
  | 0, _ => exact h0
  | 1, _ => exact h1
  | 2, _ => exact h2
  | 3, _ => exact h3
  | 4, _ => exact h4
  | 5, _ => exact h5
theorem decL_6 {α : Type} (d : List AV → α) (f : Nat → List AV) : decL d 6 f = [d (f 0), d (f 1), d (f 2), d (f 3), d (f 4), d (f 5)] := rfl
theorem fl7 (p : Nat → Prop) : (∀ i, i < 7 → p i) = (p 0 ∧ p 1 ∧ p 2 ∧ p 3 ∧ p 4 ∧ p 5 ∧ p 6) := by
  apply propext
  refine ⟨fun h => ⟨h 0 (by omega), h 1 (by omega), h 2 (by omega), h 3 (by omega), h 4 (by omega), h 5 (by omega), h 6 (by omega)⟩, fun h i hi => ?_⟩
  obtain ⟨h0, h1, h2, h3, h4, h5, h6⟩ := h
  match i, hi with
  | 0, _ => exact h0
  | 1, _ => exact h1
  | 2, _ => exact h2
  | 3, _ => exact h3
  | 4, _ => exact h4
  | 5, _ => exact h5
  | 6, _ => exact h6
theorem decL_7 {α : Type} (d : List AV → α) (f : Nat → List AV) : decL d 7 f = [d (f 0), d (f 1), d (f 2), d (f 3), d (f 4), d (f 5), d (f 6)] := rfl
theorem fl8 (p : Nat → Prop) : (∀ i, i < 8 → p i) = (p 0 ∧ p 1 ∧ p 2 ∧ p 3 ∧ p 4 ∧ p 5 ∧ p 6 ∧ p 7) := by
  apply propext
  refine ⟨fun h => ⟨h 0 (by omega), h 1 (by omega), h 2 (by omega), h 3 (by omega), h 4 (by omega), h 5 (by omega), h 6 (by omega), h 7 (by omega)⟩, fun h i hi => ?_⟩
  obtain ⟨h0, h1, h2, h3, h4, h5, h6, h7⟩ := h
  match i, hi with
  | 0, _ => exact h0
  | 1, _ => exact h1
  | 2, _ => exact h2
  | 3, _ => exact h3
  | 4, _ => exact h4
  | 5, _ => exact h5
  | 6, _ => exact h6
  | 7, _ => exact h7
theorem decL_8 {α : Type} (d : List AV → α) (f : Nat → List AV) : decL d 8 f = [d (f 0), d (f 1), d (f 2), d (f 3), d (f 4), d (f 5), d (f 6), d (f 7)] := rfl
theorem fl9 (p : Nat → Prop) : (∀ i, i < 9 → p i) = (p 0 ∧ p 1 ∧ p 2 ∧ p 3 ∧ p 4 ∧ p 5 ∧ p 6 ∧ p 7 ∧ p 8) := by
  apply propext
  refine ⟨fun h => ⟨h 0 (by omega), h 1 (by omega), h 2 (by omega), h 3 (by omega), h 4 (by omega), h 5 (by omega), h 6 (by omega), h 7 (by omega), h 8 (by omega)⟩, fun h i hi => ?_⟩
  obtain ⟨h0, h1, h2, h3, h4, h5, h6, h7, h8⟩ := h
  match i, hi with
  | 0, _ => exact h0
  | 1, _ => exact h1
  | 2, _ => exact h2
  | 3, _ => exact h3
  | 4, _ => exact h4
  | 5, _ => exact h5
  | 6, _ => exact h6
  | 7, _ => exact h7
  | 8, _ => exact h8
theorem decL_9 {α : Type} (d : List AV → α) (f : Nat → List AV) : decL d 9 f = [d (f 0), d (f 1), d (f 2), d (f 3), d (f 4), d (f 5), d (f 6), d (f 7), d (f 8)] := rfl
theorem fl10 (p : Nat → Prop) : (∀ i, i < 10 → p i) = (p 0 ∧ p 1 ∧ p 2 ∧ p 3 ∧ p 4 ∧ p 5 ∧ p 6 ∧ p 7 ∧ p 8 ∧ p 9) := by
  apply propext
  refine ⟨fun h => ⟨h 0 (by omega), h 1 (by omega), h 2 (by omega), h 3 (by omega), h 4 (by omega), h 5 (by omega), h 6 (by omega), h 7 (by omega), h 8 (by omega), h 9 (by omega)⟩, fun h i hi => ?_⟩
  obtain ⟨h0, h1, h2, h3, h4, h5, h6, h7, h8, h9⟩ := h
  match i, hi with
  | 0, _ => exact h0
  | 1, _ => exact h1
  | 2, _ => exact h2
  | 3, _ => exact h3
  | 4, _ => exact h4
  | 5, _ => exact h5
  | 6, _ => exact h6
  | 7, _ => exact h7
  | 8, _ => exact h8
  | 9, _ => exact h9
theorem decL_10 {α : Type} (d : List AV → α) (f : Nat → List AV) : decL d 10 f = [d (f 0), d (f 1), d (f 2), d (f 3), d (f 4), d (f 5), d (f 6), d (f 7), d (f 8), d (f 9)] := rfl
theorem fl11 (p : Nat → Prop) : (∀ i, i < 11 → p i) = (p 0 ∧ p 1 ∧ p 2 ∧ p 3 ∧ p 4 ∧ p 5 ∧ p 6 ∧ p 7 ∧ p 8 ∧ p 9 ∧ p 10) := by
  apply propext
  refine ⟨fun h => ⟨h 0 (by omega), h 1 (by omega), h 2 (by omega), h 3 (by omega), h 4 (by omega), h 5 (by omega), h 6 (by omega), h 7 (by omega), h 8 (by omega), h 9 (by omega), h 10 (by omega)⟩, fun h i hi => ?_⟩
  obtain ⟨h0, h1, h2, h3, h4, h5, h6, h7, h8, h9, h10⟩ := h
  match i, hi with
  | 0, _ => exact h0
  | 1, _ => exact h1
  | 2, _ => exact h2
  | 3, _ => exact h3
  | 4, _ => exact h4
  | 5, _ => exact h5
  | 6, _ => exact h6
  | 7, _ => exact h7
  | 8, _ => exact h8
  | 9, _ => exact h9
  | 10, _ => exact h10
theorem decL_11 {α : Type} (d : List AV → α) (f : Nat → List AV) : decL d 11 f = [d (f 0), d (f 1), d (f 2), d (f 3), d (f 4), d (f 5), d (f 6), d (f 7), d (f 8), d (f 9), d (f 10)] := rfl
theorem fl12 (p : Nat → Prop) : (∀ i, i < 12 → p i) = (p 0 ∧ p 1 ∧ p 2 ∧ p 3 ∧ p 4 ∧ p 5 ∧ p 6 ∧ p 7 ∧ p 8 ∧ p 9 ∧ p 10 ∧ p 11) := by
  apply propext
  refine ⟨fun h => ⟨h 0 (by omega), h 1 (by omega), h 2 (by omega), h 3 (by omega), h 4 (by omega), h 5 (by omega), h 6 (by omega), h 7 (by omega), h 8 (by omega), h 9 (by omega), h 10 (by omega), h 11 (by omega)⟩, fun h i hi => ?_⟩
  obtain ⟨h0, h1, h2, h3, h4, h5, h6, h7, h8, h9, h10, h11⟩ := h
  match i, hi with
  | 0, _ => exact h0
  | 1, _ => exact h1
  | 2, _ => exact h2
  | 3, _ => exact h3
  | 4, _ => exact h4
  | 5, _ => exact h5
  | 6, _ => exact h6
  | 7, _ => exact h7
  | 8, _ => exact h8
  | 9, _ => exact h9
  | 10, _ => exact h10
  | 11, _ => exact h11
theorem decL_12 {α : Type} (d : List AV → α) (f : Nat → List AV) : decL d 12 f = [d (f 0), d (f 1), d (f 2), d (f 3), d (f 4), d (f 5), d (f 6), d (f 7), d (f 8), d (f 9), d (f 10), d (f 11)] := rfl
theorem fl13 (p : Nat → Prop) : (∀ i, i < 13 → p i) = (p 0 ∧ p 1 ∧ p 2 ∧ p 3 ∧ p 4 ∧ p 5 ∧ p 6 ∧ p 7 ∧ p 8 ∧ p 9 ∧ p 10 ∧ p 11 ∧ p 12) := by
  apply propext
  refine ⟨fun h => ⟨h 0 (by omega), h 1 (by omega), h 2 (by omega), h 3 (by omega), h 4 (by omega), h 5 (by omega), h 6 (by omega), h 7 (by omega), h 8 (by omega), h 9 (by omega), h 10 (by omega), h 11 (by omega), h 12 (by omega)⟩, fun h i hi => ?_⟩
  obtain ⟨h0, h1, h2, h3, h4, h5, h6, h7, h8, h9, h10, h11, h12⟩ := h
  match i, hi with
  | 0, _ => exact h0
  | 1, _ => exact h1
  | 2, _ => exact h2
  | 3, _ => exact h3
  | 4, _ => exact h4
  | 5, _ => exact h5
  | 6, _ => exact h6
  | 7, _ => exact h7
  | 8, _ => exact h8
  | 9, _ => exact h9
  | 10, _ => exact h10
  | 11, _ => exact h11
  | 12, _ => exact h12
theorem decL_13 {α : Type} (d : List AV → α) (f : Nat → List AV) : decL d 13 f = [d (f 0), d (f 1), d (f 2), d (f 3), d (f 4), d (f 5), d (f 6), d (f 7), d (f 8), d (f 9), d (f 10), d (f 11), d (f 12)] := rfl
theorem sv : type_of% (
  And.intro @wGO.eq_def <|
  And.intro @wQ.eq_def <|
  And.intro @rdQ.eq_def <|
  And.intro @subL_all <|
  And.intro @fl1 <|
  And.intro @fl2 <|
  And.intro @fl3 <|
  And.intro @fl4 <|
  And.intro @decL_0 <|
  And.intro @decL_1 <|
  And.intro @decL_2 <|
  And.intro @decL_3 <|
  And.intro @decL_4 <|
  And.intro @fl5 <|
  And.intro @fl6 <|
  And.intro @fl7 <|
  And.intro @fl8 <|
  And.intro @fl9 <|
  And.intro @fl10 <|
  And.intro @fl11 <|
  And.intro @fl12 <|
  And.intro @fl13 <|
  And.intro @decL_5 <|
  And.intro @decL_6 <|
  And.intro @decL_7 <|
  And.intro @decL_8 <|
  And.intro @decL_9 <|
  And.intro @decL_10 <|
  And.intro @decL_11 <|
  And.intro @decL_12 <|
  And.intro @decL_13 <|
  And.intro @eStore.eq_1 <|
  And.intro @dStore.eq_1 <|
  And.intro @Store_eta <|
  And.intro @eStoreO.eq_1 <|
  And.intro @eSpare.eq_1 <|
  And.intro @dSpare.eq_1 <|
  And.intro @Spare_eta <|
  And.intro @eEntry.eq_1 <|
  And.intro @dEntry.eq_1 <|
  And.intro @Entry_eta <|
  And.intro @eItem.eq_1 <|
  And.intro @dItem.eq_1 <|
  And.intro @Item_eta <|
  And.intro @el00Src.eq_1 <|
  And.intro @dl00Src.eq_1 <|
  And.intro @l00Src_eta <|
  And.intro @el00SrcO.eq_1 <|
  And.intro @decL_Entry <|
  And.intro @decS_Entry <|
  And.intro @decT_Entry <|
  And.intro @eIi64.eq_1 <|
  And.intro @dIi64.eq_1 <|
  And.intro @decL_Ii64 <|
  And.intro @decS_Ii64 <|
  And.intro @decT_Ii64 <|
  And.intro @decL_Item <|
  And.intro @decS_Item <|
  And.intro @decT_Item <|
  And.intro @eIu8.eq_1 <|
  And.intro @dIu8.eq_1 <|
  And.intro @decL_Iu8 <|
  And.intro @decS_Iu8 <|
  And.intro @decT_Iu8 <|
  And.intro @eS.eq_1 <|
  And.intro @dS.eq_1 <|
  And.intro @decL_S <|
  And.intro @decS_S <|
  And.intro @decT_S <|
  And.intro @decL_Spare <|
  And.intro @decS_Spare <| @decT_Spare) :=
  And.intro @wGO.eq_def <|
  And.intro @wQ.eq_def <|
  And.intro @rdQ.eq_def <|
  And.intro @subL_all <|
  And.intro @fl1 <|
  And.intro @fl2 <|
  And.intro @fl3 <|
  And.intro @fl4 <|
  And.intro @decL_0 <|
  And.intro @decL_1 <|
  And.intro @decL_2 <|
  And.intro @decL_3 <|
  And.intro @decL_4 <|
  And.intro @fl5 <|
  And.intro @fl6 <|
  And.intro @fl7 <|
  And.intro @fl8 <|
  And.intro @fl9 <|
  And.intro @fl10 <|
  And.intro @fl11 <|
  And.intro @fl12 <|
  And.intro @fl13 <|
  And.intro @decL_5 <|
  And.intro @decL_6 <|
  And.intro @decL_7 <|
  And.intro @decL_8 <|
  And.intro @decL_9 <|
  And.intro @decL_10 <|
  And.intro @decL_11 <|
  And.intro @decL_12 <|
  And.intro @decL_13 <|
  And.intro @eStore.eq_1 <|
  And.intro @dStore.eq_1 <|
  And.intro @Store_eta <|
  And.intro @eStoreO.eq_1 <|
  And.intro @eSpare.eq_1 <|
  And.intro @dSpare.eq_1 <|
  And.intro @Spare_eta <|
  And.intro @eEntry.eq_1 <|
  And.intro @dEntry.eq_1 <|
  And.intro @Entry_eta <|
  And.intro @eItem.eq_1 <|
  And.intro @dItem.eq_1 <|
  And.intro @Item_eta <|
  And.intro @el00Src.eq_1 <|
  And.intro @dl00Src.eq_1 <|
  And.intro @l00Src_eta <|
  And.intro @el00SrcO.eq_1 <|
  And.intro @decL_Entry <|
  And.intro @decS_Entry <|
  And.intro @decT_Entry <|
  And.intro @eIi64.eq_1 <|
  And.intro @dIi64.eq_1 <|
  And.intro @decL_Ii64 <|
  And.intro @decS_Ii64 <|
  And.intro @decT_Ii64 <|
  And.intro @decL_Item <|
  And.intro @decS_Item <|
  And.intro @decT_Item <|
  And.intro @eIu8.eq_1 <|
  And.intro @dIu8.eq_1 <|
  And.intro @decL_Iu8 <|
  And.intro @decS_Iu8 <|
  And.intro @decT_Iu8 <|
  And.intro @eS.eq_1 <|
  And.intro @dS.eq_1 <|
  And.intro @decL_S <|
  And.intro @decS_S <|
  And.intro @decT_S <|
  And.intro @decL_Spare <|
  And.intro @decS_Spare <| @decT_Spare
theorem bdv : type_of% (And.intro @bdS.eq_1 <| And.intro @bdSpare.eq_1 <| And.intro @bdLSpare.eq_1 <| And.intro @bdEntry.eq_1 <| And.intro @bdLEntry.eq_1 <| And.intro @bdStore.eq_1 <| And.intro @bdItem.eq_1 <| And.intro @bdLIu8.eq_1 <| And.intro @bdl00Src.eq_1 <| And.intro @bwS.eq_1 <| And.intro @bwSpare.eq_1 <| And.intro @bwLSpare.eq_1 <| And.intro @bwEntry.eq_1 <| And.intro @bwLEntry.eq_1 <| And.intro @bwStore.eq_1 <| And.intro @bwItem.eq_1 <| And.intro @bwLIu8.eq_1 <| And.intro @bwl00Src.eq_1 <| @Nat.le_refl) :=
  And.intro @bdS.eq_1 <| And.intro @bdSpare.eq_1 <| And.intro @bdLSpare.eq_1 <| And.intro @bdEntry.eq_1 <| And.intro @bdLEntry.eq_1 <| And.intro @bdStore.eq_1 <| And.intro @bdItem.eq_1 <| And.intro @bdLIu8.eq_1 <| And.intro @bdl00Src.eq_1 <| And.intro @bwS.eq_1 <| And.intro @bwSpare.eq_1 <| And.intro @bwLSpare.eq_1 <| And.intro @bwEntry.eq_1 <| And.intro @bwLEntry.eq_1 <| And.intro @bwStore.eq_1 <| And.intro @bwItem.eq_1 <| And.intro @bwLIu8.eq_1 <| And.intro @bwl00Src.eq_1 <| @Nat.le_refl
structure SrcOk (n : Int) (s : l00Src) : Prop where
  lo : 0 ≤ s.at_
  hi : s.at_ ≤ n
  by_ : ∀ v ∈ s.code, 0 ≤ v ∧ v ≤ 255
theorem SrcOk.mono {n m : Int} {s : l00Src} (h : SrcOk n s) (hm : n ≤ m) : SrcOk m s := ⟨h.lo, Int.le_trans h.hi hm, h.by_⟩
end Go.Ab
