/- A part of a proof: walks of functions and lemmas of our own. No conditions. -/
import Derived.Test.YtapfmnafakdhmaaTAg
import Derived.KernelRfl
import Derived.Test.YtapfmnafakdhmaaProg
set_option linter.unusedSectionVars false
set_option linter.unusedVariables false
set_option linter.unusedSimpArgs false
namespace Go.Ab
open Go Go.Proofs
instance inv0 : Inv := ⟨fun _ => True, fun _ => False, fun _ _ _ h => h.elim, fun _ _ _ _ _ => trivial⟩
def G : Env := [(2, ⟨.int .i64, 1, 8, [.int .i64 0], true⟩),
  (3, ⟨.int .i64, 1, 8, [.int .i64 0], true⟩),
  (4, ⟨.bool, 1, 1, [.bool false], true⟩),
  (5, ⟨.int .u8, 1, 1, [.int .u8 0], true⟩),
  (9, ⟨.string, 1, 16, [.str []], true⟩),
  (22, ⟨.slice 72, 1, 24, [.nils], true⟩),
  (25, ⟨.slice 70, 1, 24, [.nils], true⟩),
  (29, ⟨.slice 85, 1, 24, [.nils], true⟩),
  (31, ⟨.slice 83, 1, 24, [.nils], true⟩),
  (38, ⟨.slice 128, 1, 24, [.nils], true⟩),
  (39, ⟨.slice 130, 1, 24, [.nils], true⟩),
  (41, ⟨.struct [(0, 38), (1, 39)] true, 2, 48, [.nils, .nils], true⟩),
  (44, ⟨.slice 93, 1, 24, [.nils], true⟩),
  (45, ⟨.slice 95, 1, 24, [.nils], true⟩),
  (47, ⟨.struct [(0, 44), (1, 45)] true, 2, 48, [.nils, .nils], true⟩),
  (50, ⟨.slice 102, 1, 24, [.nils], true⟩),
  (53, ⟨.slice 103, 1, 24, [.nils], true⟩),
  (70, ⟨.struct [(0, 2), (1, 2), (2, 2), (3, 2)] true, 4, 32, [.int .i64 0, .int .i64 0, .int .i64 0, .int .i64 0], true⟩),
  (72, ⟨.struct [(0, 2), (1, 2), (2, 2), (3, 2)] true, 4, 32, [.int .i64 0, .int .i64 0, .int .i64 0, .int .i64 0], true⟩),
  (83, ⟨.struct [(0, 2), (1, 2), (2, 2)] true, 3, 24, [.int .i64 0, .int .i64 0, .int .i64 0], true⟩),
  (85, ⟨.struct [(0, 2), (1, 2), (2, 2)] true, 3, 24, [.int .i64 0, .int .i64 0, .int .i64 0], true⟩),
  (93, ⟨.struct [(0, 9), (1, 2), (2, 2)] true, 3, 32, [.str [], .int .i64 0, .int .i64 0], true⟩),
  (95, ⟨.struct [(0, 2), (1, 9), (2, 2)] true, 3, 32, [.int .i64 0, .str [], .int .i64 0], true⟩),
  (102, ⟨.struct [(0, 9), (1, 2), (2, 2)] true, 3, 32, [.str [], .int .i64 0, .int .i64 0], true⟩),
  (103, ⟨.struct [(0, 9), (1, 2), (2, 2)] true, 3, 32, [.str [], .int .i64 0, .int .i64 0], true⟩),
  (128, ⟨.struct [(0, 9), (1, 2), (2, 2)] true, 3, 32, [.str [], .int .i64 0, .int .i64 0], true⟩),
  (130, ⟨.struct [(0, 2), (1, 9), (2, 2)] true, 3, 32, [.int .i64 0, .str [], .int .i64 0], true⟩),
  (143, ⟨.slice 2, 1, 24, [.nils], true⟩),
  (144, ⟨.slice 3, 1, 24, [.nils], true⟩)]
theorem G_ok : TyOk Try.prog G := by unfold TyOk; kernel_rfl
theorem gv : tget G 2 = some ⟨.int .i64, 1, 8, [.int .i64 0], true⟩ ∧
  tget G 3 = some ⟨.int .i64, 1, 8, [.int .i64 0], true⟩ ∧
  tget G 4 = some ⟨.bool, 1, 1, [.bool false], true⟩ ∧
  tget G 5 = some ⟨.int .u8, 1, 1, [.int .u8 0], true⟩ ∧
  tget G 9 = some ⟨.string, 1, 16, [.str []], true⟩ ∧
  tget G 22 = some ⟨.slice 72, 1, 24, [.nils], true⟩ ∧
  tget G 25 = some ⟨.slice 70, 1, 24, [.nils], true⟩ ∧
  tget G 29 = some ⟨.slice 85, 1, 24, [.nils], true⟩ ∧
  tget G 31 = some ⟨.slice 83, 1, 24, [.nils], true⟩ ∧
  tget G 38 = some ⟨.slice 128, 1, 24, [.nils], true⟩ ∧
  tget G 39 = some ⟨.slice 130, 1, 24, [.nils], true⟩ ∧
  tget G 41 = some ⟨.struct [(0, 38), (1, 39)] true, 2, 48, [.nils, .nils], true⟩ ∧
  tget G 44 = some ⟨.slice 93, 1, 24, [.nils], true⟩ ∧
  tget G 45 = some ⟨.slice 95, 1, 24, [.nils], true⟩ ∧
  tget G 47 = some ⟨.struct [(0, 44), (1, 45)] true, 2, 48, [.nils, .nils], true⟩ ∧
  tget G 50 = some ⟨.slice 102, 1, 24, [.nils], true⟩ ∧
  tget G 53 = some ⟨.slice 103, 1, 24, [.nils], true⟩ ∧
  tget G 70 = some ⟨.struct [(0, 2), (1, 2), (2, 2), (3, 2)] true, 4, 32, [.int .i64 0, .int .i64 0, .int .i64 0, .int .i64 0], true⟩ ∧
  tget G 72 = some ⟨.struct [(0, 2), (1, 2), (2, 2), (3, 2)] true, 4, 32, [.int .i64 0, .int .i64 0, .int .i64 0, .int .i64 0], true⟩ ∧
  tget G 83 = some ⟨.struct [(0, 2), (1, 2), (2, 2)] true, 3, 24, [.int .i64 0, .int .i64 0, .int .i64 0], true⟩ ∧
  tget G 85 = some ⟨.struct [(0, 2), (1, 2), (2, 2)] true, 3, 24, [.int .i64 0, .int .i64 0, .int .i64 0], true⟩ ∧
  tget G 93 = some ⟨.struct [(0, 9), (1, 2), (2, 2)] true, 3, 32, [.str [], .int .i64 0, .int .i64 0], true⟩ ∧
  tget G 95 = some ⟨.struct [(0, 2), (1, 9), (2, 2)] true, 3, 32, [.int .i64 0, .str [], .int .i64 0], true⟩ ∧
  tget G 102 = some ⟨.struct [(0, 9), (1, 2), (2, 2)] true, 3, 32, [.str [], .int .i64 0, .int .i64 0], true⟩ ∧
  tget G 103 = some ⟨.struct [(0, 9), (1, 2), (2, 2)] true, 3, 32, [.str [], .int .i64 0, .int .i64 0], true⟩ ∧
  tget G 128 = some ⟨.struct [(0, 9), (1, 2), (2, 2)] true, 3, 32, [.str [], .int .i64 0, .int .i64 0], true⟩ ∧
  tget G 130 = some ⟨.struct [(0, 2), (1, 9), (2, 2)] true, 3, 32, [.int .i64 0, .str [], .int .i64 0], true⟩ ∧
  tget G 143 = some ⟨.slice 2, 1, 24, [.nils], true⟩ ∧
  tget G 144 = some ⟨.slice 3, 1, 24, [.nils], true⟩ := by
  and_intros <;> rfl
theorem mixed : Try.prog.follows .mixedOrders = true := by kernel_rfl
structure Fault where
  Aid : Int
  Kind : Int
  From : Int
  Until : Int
  deriving Inhabited, DecidableEq

def eFault (v : Fault) : List AV := [.int .i64 v.Aid, .int .i64 v.Kind, .int .i64 v.From, .int .i64 v.Until]

def dFault : List AV → Fault
  | [c0, c1, c2, c3] => ⟨rdI c0, rdI c1, rdI c2, rdI c3⟩
  | _ => default

theorem Fault_eta (v : Fault) : Fault.mk v.Aid v.Kind v.From v.Until = v := rfl

structure Visit where
  Aid : Int
  Every : Int
  Last : Int
  deriving Inhabited, DecidableEq

def eVisit (v : Visit) : List AV := [.int .i64 v.Aid, .int .i64 v.Every, .int .i64 v.Last]

def dVisit : List AV → Visit
  | [c0, c1, c2] => ⟨rdI c0, rdI c1, rdI c2⟩
  | _ => default

theorem Visit_eta (v : Visit) : Visit.mk v.Aid v.Every v.Last = v := rfl

structure Spare where
  Name : (List UInt8)
  Least : Int
  Most : Int
  deriving Inhabited, DecidableEq

def eSpare (v : Spare) : List AV := [.str v.Name, .int .i64 v.Least, .int .i64 v.Most]

def dSpare : List AV → Spare
  | [c0, c1, c2] => ⟨rdS c0, rdI c1, rdI c2⟩
  | _ => default

theorem Spare_eta (v : Spare) : Spare.mk v.Name v.Least v.Most = v := rfl

structure Entry where
  Day : Int
  Item : (List UInt8)
  Amount : Int
  deriving Inhabited, DecidableEq

def eEntry (v : Entry) : List AV := [.int .i64 v.Day, .str v.Item, .int .i64 v.Amount]

def dEntry : List AV → Entry
  | [c0, c1, c2] => ⟨rdI c0, rdS c1, rdI c2⟩
  | _ => default

theorem Entry_eta (v : Entry) : Entry.mk v.Day v.Item v.Amount = v := rfl

structure Store where
  Spares : (List Spare)
  Entries : (List Entry)
  deriving Inhabited, DecidableEq

def eStore (v : Store) : List AV := [encL 3 eSpare v.Spares, encL 3 eEntry v.Entries]

def eStoreO (v : Store) : List AV := [ownL 93 3 eSpare v.Spares, ownL 95 3 eEntry v.Entries]

def dStore : List AV → Store
  | [c0, c1] => ⟨rdL dSpare c0, rdL dEntry c1⟩
  | _ => default

theorem Store_eta (v : Store) : Store.mk v.Spares v.Entries = v := rfl

structure Duty where
  Keeper : (List UInt8)
  From : Int
  Until : Int
  deriving Inhabited, DecidableEq

def eDuty (v : Duty) : List AV := [.str v.Keeper, .int .i64 v.From, .int .i64 v.Until]

def dDuty : List AV → Duty
  | [c0, c1, c2] => ⟨rdS c0, rdI c1, rdI c2⟩
  | _ => default

theorem Duty_eta (v : Duty) : Duty.mk v.Keeper v.From v.Until = v := rfl

theorem decL_Duty (l : List Duty) : decL dDuty l.length (fun i => [.str ((l.getD i default).Keeper), .int .i64 ((l.getD i default).From), .int .i64 ((l.getD i default).Until)]) = l := range_getD l

theorem decS_Duty (l : List Duty) (lo n : Nat) : decL dDuty n (fun i => [.str ((l.getD (lo + i) default).Keeper), .int .i64 ((l.getD (lo + i) default).From), .int .i64 ((l.getD (lo + i) default).Until)]) = subL l lo n := rfl

theorem decT_Duty (l : List Duty) (n : Nat) : decL dDuty n (fun i => [.str ((l.getD i default).Keeper), .int .i64 ((l.getD i default).From), .int .i64 ((l.getD i default).Until)]) = subL l 0 n := by simp only [subL, Nat.zero_add]; rfl

theorem decL_Entry (l : List Entry) : decL dEntry l.length (fun i => [.int .i64 ((l.getD i default).Day), .str ((l.getD i default).Item), .int .i64 ((l.getD i default).Amount)]) = l := range_getD l

theorem decS_Entry (l : List Entry) (lo n : Nat) : decL dEntry n (fun i => [.int .i64 ((l.getD (lo + i) default).Day), .str ((l.getD (lo + i) default).Item), .int .i64 ((l.getD (lo + i) default).Amount)]) = subL l lo n := rfl

theorem decT_Entry (l : List Entry) (n : Nat) : decL dEntry n (fun i => [.int .i64 ((l.getD i default).Day), .str ((l.getD i default).Item), .int .i64 ((l.getD i default).Amount)]) = subL l 0 n := by simp only [subL, Nat.zero_add]; rfl

theorem decL_Fault (l : List Fault) : decL dFault l.length (fun i => [.int .i64 ((l.getD i default).Aid), .int .i64 ((l.getD i default).Kind), .int .i64 ((l.getD i default).From), .int .i64 ((l.getD i default).Until)]) = l := range_getD l

theorem decS_Fault (l : List Fault) (lo n : Nat) : decL dFault n (fun i => [.int .i64 ((l.getD (lo + i) default).Aid), .int .i64 ((l.getD (lo + i) default).Kind), .int .i64 ((l.getD (lo + i) default).From), .int .i64 ((l.getD (lo + i) default).Until)]) = subL l lo n := rfl

theorem decT_Fault (l : List Fault) (n : Nat) : decL dFault n (fun i => [.int .i64 ((l.getD i default).Aid), .int .i64 ((l.getD i default).Kind), .int .i64 ((l.getD i default).From), .int .i64 ((l.getD i default).Until)]) = subL l 0 n := by simp only [subL, Nat.zero_add]; rfl

def eIi64 (v : Int) : List AV := [.int .i64 v]
def dIi64 : List AV → Int
  | [c] => rdI c
  | _ => default

theorem decL_Ii64 (l : List Int) : decL dIi64 l.length (fun i => [.int .i64 (l.getD i default)]) = l := range_getD l

theorem decS_Ii64 (l : List Int) (lo n : Nat) : decL dIi64 n (fun i => [.int .i64 (l.getD (lo + i) default)]) = subL l lo n := rfl

theorem decT_Ii64 (l : List Int) (n : Nat) : decL dIi64 n (fun i => [.int .i64 (l.getD i default)]) = subL l 0 n := by simp only [subL, Nat.zero_add]; rfl

def eS (v : (List UInt8)) : List AV := [.str v]
def dS : List AV → (List UInt8)
  | [c] => rdS c
  | _ => default

theorem decL_S (l : List (List UInt8)) : decL dS l.length (fun i => [.str (l.getD i default)]) = l := range_getD l

theorem decS_S (l : List (List UInt8)) (lo n : Nat) : decL dS n (fun i => [.str (l.getD (lo + i) default)]) = subL l lo n := rfl

theorem decT_S (l : List (List UInt8)) (n : Nat) : decL dS n (fun i => [.str (l.getD i default)]) = subL l 0 n := by simp only [subL, Nat.zero_add]; rfl

theorem decL_Spare (l : List Spare) : decL dSpare l.length (fun i => [.str ((l.getD i default).Name), .int .i64 ((l.getD i default).Least), .int .i64 ((l.getD i default).Most)]) = l := range_getD l

theorem decS_Spare (l : List Spare) (lo n : Nat) : decL dSpare n (fun i => [.str ((l.getD (lo + i) default).Name), .int .i64 ((l.getD (lo + i) default).Least), .int .i64 ((l.getD (lo + i) default).Most)]) = subL l lo n := rfl

theorem decT_Spare (l : List Spare) (n : Nat) : decL dSpare n (fun i => [.str ((l.getD i default).Name), .int .i64 ((l.getD i default).Least), .int .i64 ((l.getD i default).Most)]) = subL l 0 n := by simp only [subL, Nat.zero_add]; rfl

theorem decL_Visit (l : List Visit) : decL dVisit l.length (fun i => [.int .i64 ((l.getD i default).Aid), .int .i64 ((l.getD i default).Every), .int .i64 ((l.getD i default).Last)]) = l := range_getD l

theorem decS_Visit (l : List Visit) (lo n : Nat) : decL dVisit n (fun i => [.int .i64 ((l.getD (lo + i) default).Aid), .int .i64 ((l.getD (lo + i) default).Every), .int .i64 ((l.getD (lo + i) default).Last)]) = subL l lo n := rfl

theorem decT_Visit (l : List Visit) (n : Nat) : decL dVisit n (fun i => [.int .i64 ((l.getD i default).Aid), .int .i64 ((l.getD i default).Every), .int .i64 ((l.getD i default).Last)]) = subL l 0 n := by simp only [subL, Nat.zero_add]; rfl

def bdS (v : List UInt8) : Prop := v.length < 1099511627776
instance : DecidablePred bdS := fun v => inferInstanceAs (Decidable (v.length < 1099511627776))

def bdSpare (v : Spare) : Prop := bdS v.Name

instance : DecidablePred bdSpare := fun v => by unfold bdSpare; infer_instance

def bdLSpare (v : (List Spare)) : Prop := v.length < 1099511627776 ∧ ∀ x ∈ v, bdSpare x

instance : DecidablePred bdLSpare := fun v => by unfold bdLSpare; infer_instance

def bdEntry (v : Entry) : Prop := bdS v.Item

instance : DecidablePred bdEntry := fun v => by unfold bdEntry; infer_instance

def bdLEntry (v : (List Entry)) : Prop := v.length < 1099511627776 ∧ ∀ x ∈ v, bdEntry x

instance : DecidablePred bdLEntry := fun v => by unfold bdLEntry; infer_instance

def bdStore (v : Store) : Prop := bdLSpare v.Spares ∧ bdLEntry v.Entries

instance : DecidablePred bdStore := fun v => by unfold bdStore; infer_instance

def bdDuty (v : Duty) : Prop := bdS v.Keeper

instance : DecidablePred bdDuty := fun v => by unfold bdDuty; infer_instance

def bwS (v : List UInt8) : Prop := v.length < 9223372036854775808
instance : DecidablePred bwS := fun v => inferInstanceAs (Decidable (v.length < 9223372036854775808))

def bwSpare (v : Spare) : Prop := bwS v.Name

instance : DecidablePred bwSpare := fun v => by unfold bwSpare; infer_instance

def bwLSpare (v : (List Spare)) : Prop := v.length < 9223372036854775808 ∧ ∀ x ∈ v, bwSpare x

instance : DecidablePred bwLSpare := fun v => by unfold bwLSpare; infer_instance

def bwEntry (v : Entry) : Prop := bwS v.Item

instance : DecidablePred bwEntry := fun v => by unfold bwEntry; infer_instance

def bwLEntry (v : (List Entry)) : Prop := v.length < 9223372036854775808 ∧ ∀ x ∈ v, bwEntry x

instance : DecidablePred bwLEntry := fun v => by unfold bwLEntry; infer_instance

def bwStore (v : Store) : Prop := bwLSpare v.Spares ∧ bwLEntry v.Entries

instance : DecidablePred bwStore := fun v => by unfold bwStore; infer_instance

def bwDuty (v : Duty) : Prop := bwS v.Keeper

instance : DecidablePred bwDuty := fun v => by unfold bwDuty; infer_instance

theorem S_lens (v : List UInt8) (h : lensL [.str v]) : bwS v := Nat.lt_succ_of_le h.1

theorem Spare_lens (v : Spare) (h : lensL (eSpare v)) : bwSpare v := Nat.lt_succ_of_le h.1

theorem LSpare_lens (v : (List Spare)) (h : lensL [encL 3 eSpare v]) : bwLSpare v := ⟨Nat.lt_succ_of_le (lens_encL h.1).1, fun y hy => Spare_lens y ((lens_encL h.1).2 y hy)⟩

theorem Entry_lens (v : Entry) (h : lensL (eEntry v)) : bwEntry v := Nat.lt_succ_of_le h.2.1

theorem LEntry_lens (v : (List Entry)) (h : lensL [encL 3 eEntry v]) : bwLEntry v := ⟨Nat.lt_succ_of_le (lens_encL h.1).1, fun y hy => Entry_lens y ((lens_encL h.1).2 y hy)⟩

theorem Store_lens (v : Store) (h : lensL (eStore v)) : bwStore v := ⟨⟨Nat.lt_succ_of_le (lens_encL h.1).1, fun y hy => Spare_lens y ((lens_encL h.1).2 y hy)⟩, ⟨Nat.lt_succ_of_le (lens_encL h.2.1).1, fun y hy => Entry_lens y ((lens_encL h.2.1).2 y hy)⟩⟩

theorem Store_lensO (v : Store) (h : lensL (eStoreO v)) : bwStore v := ⟨⟨Nat.lt_succ_of_le (lens_ownL h.1).1, fun y hy => Spare_lens y ((lens_ownL h.1).2 y hy)⟩, ⟨Nat.lt_succ_of_le (lens_ownL h.2.1).1, fun y hy => Entry_lens y ((lens_ownL h.2.1).2 y hy)⟩⟩

theorem Duty_lens (v : Duty) (h : lensL (eDuty v)) : bwDuty v := Nat.lt_succ_of_le h.1

theorem sv : type_of% (
  And.intro @subL_all <|
  And.intro @fl1 <|
  And.intro @fl2 <|
  And.intro @fl3 <|
  And.intro @fl4 <|
  And.intro @decL_0 <|
  And.intro @decL_1 <|
  And.intro @decL_2 <|
  And.intro @decL_3 <|
  And.intro @decL_4 <|
  And.intro @eFault.eq_1 <|
  And.intro @dFault.eq_1 <|
  And.intro @Fault_eta <|
  And.intro @eVisit.eq_1 <|
  And.intro @dVisit.eq_1 <|
  And.intro @Visit_eta <|
  And.intro @eStore.eq_1 <|
  And.intro @dStore.eq_1 <|
  And.intro @Store_eta <|
  And.intro @eStoreO.eq_1 <|
  And.intro @eSpare.eq_1 <|
  And.intro @dSpare.eq_1 <|
  And.intro @Spare_eta <|
  And.intro @eEntry.eq_1 <|
  And.intro @dEntry.eq_1 <|
  And.intro @Entry_eta <|
  And.intro @eDuty.eq_1 <|
  And.intro @dDuty.eq_1 <|
  And.intro @Duty_eta <|
  And.intro @decL_Duty <|
  And.intro @decS_Duty <|
  And.intro @decT_Duty <|
  And.intro @decL_Entry <|
  And.intro @decS_Entry <|
  And.intro @decT_Entry <|
  And.intro @decL_Fault <|
  And.intro @decS_Fault <|
  And.intro @decT_Fault <|
  And.intro @eIi64.eq_1 <|
  And.intro @dIi64.eq_1 <|
  And.intro @decL_Ii64 <|
  And.intro @decS_Ii64 <|
  And.intro @decT_Ii64 <|
  And.intro @eS.eq_1 <|
  And.intro @dS.eq_1 <|
  And.intro @decL_S <|
  And.intro @decS_S <|
  And.intro @decT_S <|
  And.intro @decL_Spare <|
  And.intro @decS_Spare <|
  And.intro @decT_Spare <|
  And.intro @decL_Visit <|
  And.intro @decS_Visit <| @decT_Visit) :=
  And.intro @subL_all <|
  And.intro @fl1 <|
  And.intro @fl2 <|
  And.intro @fl3 <|
  And.intro @fl4 <|
  And.intro @decL_0 <|
  And.intro @decL_1 <|
  And.intro @decL_2 <|
  And.intro @decL_3 <|
  And.intro @decL_4 <|
  And.intro @eFault.eq_1 <|
  And.intro @dFault.eq_1 <|
  And.intro @Fault_eta <|
  And.intro @eVisit.eq_1 <|
  And.intro @dVisit.eq_1 <|
  And.intro @Visit_eta <|
  And.intro @eStore.eq_1 <|
  And.intro @dStore.eq_1 <|
  And.intro @Store_eta <|
  And.intro @eStoreO.eq_1 <|
  And.intro @eSpare.eq_1 <|
  And.intro @dSpare.eq_1 <|
  And.intro @Spare_eta <|
  And.intro @eEntry.eq_1 <|
  And.intro @dEntry.eq_1 <|
  And.intro @Entry_eta <|
  And.intro @eDuty.eq_1 <|
  And.intro @dDuty.eq_1 <|
  And.intro @Duty_eta <|
  And.intro @decL_Duty <|
  And.intro @decS_Duty <|
  And.intro @decT_Duty <|
  And.intro @decL_Entry <|
  And.intro @decS_Entry <|
  And.intro @decT_Entry <|
  And.intro @decL_Fault <|
  And.intro @decS_Fault <|
  And.intro @decT_Fault <|
  And.intro @eIi64.eq_1 <|
  And.intro @dIi64.eq_1 <|
  And.intro @decL_Ii64 <|
  And.intro @decS_Ii64 <|
  And.intro @decT_Ii64 <|
  And.intro @eS.eq_1 <|
  And.intro @dS.eq_1 <|
  And.intro @decL_S <|
  And.intro @decS_S <|
  And.intro @decT_S <|
  And.intro @decL_Spare <|
  And.intro @decS_Spare <|
  And.intro @decT_Spare <|
  And.intro @decL_Visit <|
  And.intro @decS_Visit <| @decT_Visit
theorem bdv : type_of% (And.intro @bdS.eq_1 <| And.intro @bdSpare.eq_1 <| And.intro @bdLSpare.eq_1 <| And.intro @bdEntry.eq_1 <| And.intro @bdLEntry.eq_1 <| And.intro @bdStore.eq_1 <| And.intro @bdDuty.eq_1 <| And.intro @bwS.eq_1 <| And.intro @bwSpare.eq_1 <| And.intro @bwLSpare.eq_1 <| And.intro @bwEntry.eq_1 <| And.intro @bwLEntry.eq_1 <| And.intro @bwStore.eq_1 <| And.intro @bwDuty.eq_1 <| @Nat.le_refl) :=
  And.intro @bdS.eq_1 <| And.intro @bdSpare.eq_1 <| And.intro @bdLSpare.eq_1 <| And.intro @bdEntry.eq_1 <| And.intro @bdLEntry.eq_1 <| And.intro @bdStore.eq_1 <| And.intro @bdDuty.eq_1 <| And.intro @bwS.eq_1 <| And.intro @bwSpare.eq_1 <| And.intro @bwLSpare.eq_1 <| And.intro @bwEntry.eq_1 <| And.intro @bwLEntry.eq_1 <| And.intro @bwStore.eq_1 <| And.intro @bwDuty.eq_1 <| @Nat.le_refl
end Go.Ab
