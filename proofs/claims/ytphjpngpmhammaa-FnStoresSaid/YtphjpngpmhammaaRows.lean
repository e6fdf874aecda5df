/-
  No cell of these rows narrows 'for every input' (looked for: loops, veiled, ifaces, maps, wideKeys, modest, calm, conditions, laid).
  DERIVED. THE GIVEN ROWS OF THIS SEAT. 12 by the template 'for every input the law returns true; each argument reads behind the call as it read before'; 0 by the template 'total and deterministic' (their statements: YtphjpngpmhammaaTotals.lean).
  GIVEN WITH THE SEED: the statements are not yours to turn. If you find one false, say at which input.
  Laid BY PROGRAM, IN A SANDBOX (cutbox-rows.mjs): the forced cells as the released guide's own fill.sh prints them over the translation 84a5c51cba78cfae… (all of the seat's roots in one cut). By AI agents, Wed Nov 11 2026. No macro, syntax, notation, axiom, sorry.
-/
import Derived.Test.YtphjpngpmhammaaChecked
import GoSem.Claim
import GoSem.ClaimJoined
import GoSem.ClaimMapViews
import Derived.JoinedTies
import Derived.KernelRfl
namespace Go.Proofs.Ytphjpngpmhammaa
/- THE CELL 'sum', in the pinned program and in every row, IS THE sha256 OF THE DUMP (.gsa) THAT YtphjpngpmhammaaProg.lean LOADS. Nothing in Lean hashes anything: it is a label: what it is worth is what the hold of that sum in a sandbox is worth. -/
noncomputable def Try.pinned : Pinned := { name := "ytphjpngpmhammaa", sum := "84a5c51cba78cfae442532dc81bbc8bee93556debe3cf2e526dcdf4c734eeb83", checked := Try.checked }
namespace Rows
def none {H : Type} : Left H := { results := [], args := [] }

/-- 'laws.FnExactValidStore': WHATEVER THE INPUT: true; the input reads as it did. -/
def fnExactValidStoreSpec : ChangeSpec := { name := "fnExactValidStore", fn := fun _ => fun
  | [d] => { results := [.lit (.bool true)], args := [d] }
  | _ => none }
def fnExactValidStoreRow : OpenClaim := { program := "ytphjpngpmhammaa", sum := "84a5c51cba78cfae442532dc81bbc8bee93556debe3cf2e526dcdf4c734eeb83", func := "loop.example/g00953/laws.FnExactValidStore", spec := "fnExactValidStore", unfollowed := true, recurses := true, apart := false }
def FnExactValidStoreSaid : Prop := fnExactValidStoreRow.holds Try.pinned (OpenSpec.ofChange fnExactValidStoreSpec)

/-- ITS FALSE NEIGHBOUR: 'it returns false'. Refute it at one input. -/
def fnExactValidStoreWrong : ChangeSpec := { name := "fnExactValidStore", fn := fun _ => fun
  | [d] => { results := [.lit (.bool false)], args := [d] }
  | _ => none }
def FnExactValidStoreWrongFalsely : Prop := fnExactValidStoreRow.holds Try.pinned (OpenSpec.ofChange fnExactValidStoreWrong)

/-- 'laws.FnExactMergeItems': WHATEVER THE INPUT: true; the input reads as it did. -/
def fnExactMergeItemsSpec : ChangeSpec := { name := "fnExactMergeItems", fn := fun _ => fun
  | [d1, d2] => { results := [.lit (.bool true)], args := [d1, d2] }
  | _ => none }
def fnExactMergeItemsRow : OpenClaim := { program := "ytphjpngpmhammaa", sum := "84a5c51cba78cfae442532dc81bbc8bee93556debe3cf2e526dcdf4c734eeb83", func := "loop.example/g00953/laws.FnExactMergeItems", spec := "fnExactMergeItems", inPlace := ["slices.overlaps[loop.example/g00953/impl.Item]"], apart := false }
def FnExactMergeItemsSaid : Prop := fnExactMergeItemsRow.holds Try.pinned (OpenSpec.ofChange fnExactMergeItemsSpec)

/-- ITS FALSE NEIGHBOUR: 'it returns false'. Refute it at one input. -/
def fnExactMergeItemsWrong : ChangeSpec := { name := "fnExactMergeItems", fn := fun _ => fun
  | [d1, d2] => { results := [.lit (.bool false)], args := [d1, d2] }
  | _ => none }
def FnExactMergeItemsWrongFalsely : Prop := fnExactMergeItemsRow.holds Try.pinned (OpenSpec.ofChange fnExactMergeItemsWrong)

/-- 'laws.FnExactPutItem': WHATEVER THE INPUT: true; the input reads as it did. -/
def fnExactPutItemSpec : ChangeSpec := { name := "fnExactPutItem", fn := fun _ => fun
  | [d1, d2, d3] => { results := [.lit (.bool true)], args := [d1, d2, d3] }
  | _ => none }
def fnExactPutItemRow : OpenClaim := { program := "ytphjpngpmhammaa", sum := "84a5c51cba78cfae442532dc81bbc8bee93556debe3cf2e526dcdf4c734eeb83", func := "loop.example/g00953/laws.FnExactPutItem", spec := "fnExactPutItem", inPlace := ["slices.overlaps[loop.example/g00953/impl.Item]"], apart := false }
def FnExactPutItemSaid : Prop := fnExactPutItemRow.holds Try.pinned (OpenSpec.ofChange fnExactPutItemSpec)

/-- ITS FALSE NEIGHBOUR: 'it returns false'. Refute it at one input. -/
def fnExactPutItemWrong : ChangeSpec := { name := "fnExactPutItem", fn := fun _ => fun
  | [d1, d2, d3] => { results := [.lit (.bool false)], args := [d1, d2, d3] }
  | _ => none }
def FnExactPutItemWrongFalsely : Prop := fnExactPutItemRow.holds Try.pinned (OpenSpec.ofChange fnExactPutItemWrong)

/-- 'laws.FnExactStockOn': WHATEVER THE INPUT: true; the input reads as it did. -/
def fnExactStockOnSpec : ChangeSpec := { name := "fnExactStockOn", fn := fun _ => fun
  | [d1, d2, d3] => { results := [.lit (.bool true)], args := [d1, d2, d3] }
  | _ => none }
def fnExactStockOnRow : OpenClaim := { program := "ytphjpngpmhammaa", sum := "84a5c51cba78cfae442532dc81bbc8bee93556debe3cf2e526dcdf4c734eeb83", func := "loop.example/g00953/laws.FnExactStockOn", spec := "fnExactStockOn", unfollowed := true, recurses := true, apart := false }
def FnExactStockOnSaid : Prop := fnExactStockOnRow.holds Try.pinned (OpenSpec.ofChange fnExactStockOnSpec)

/-- ITS FALSE NEIGHBOUR: 'it returns false'. Refute it at one input. -/
def fnExactStockOnWrong : ChangeSpec := { name := "fnExactStockOn", fn := fun _ => fun
  | [d1, d2, d3] => { results := [.lit (.bool false)], args := [d1, d2, d3] }
  | _ => none }
def FnExactStockOnWrongFalsely : Prop := fnExactStockOnRow.holds Try.pinned (OpenSpec.ofChange fnExactStockOnWrong)

/-- 'laws.FnExactFreeOn': WHATEVER THE INPUT: true; the input reads as it did. -/
def fnExactFreeOnSpec : ChangeSpec := { name := "fnExactFreeOn", fn := fun _ => fun
  | [d1, d2, d3] => { results := [.lit (.bool true)], args := [d1, d2, d3] }
  | _ => none }
def fnExactFreeOnRow : OpenClaim := { program := "ytphjpngpmhammaa", sum := "84a5c51cba78cfae442532dc81bbc8bee93556debe3cf2e526dcdf4c734eeb83", func := "loop.example/g00953/laws.FnExactFreeOn", spec := "fnExactFreeOn", unfollowed := true, recurses := true, apart := false }
def FnExactFreeOnSaid : Prop := fnExactFreeOnRow.holds Try.pinned (OpenSpec.ofChange fnExactFreeOnSpec)

/-- ITS FALSE NEIGHBOUR: 'it returns false'. Refute it at one input. -/
def fnExactFreeOnWrong : ChangeSpec := { name := "fnExactFreeOn", fn := fun _ => fun
  | [d1, d2, d3] => { results := [.lit (.bool false)], args := [d1, d2, d3] }
  | _ => none }
def FnExactFreeOnWrongFalsely : Prop := fnExactFreeOnRow.holds Try.pinned (OpenSpec.ofChange fnExactFreeOnWrong)

/-- 'laws.FnExactRoomOn': WHATEVER THE INPUT: true; the input reads as it did. -/
def fnExactRoomOnSpec : ChangeSpec := { name := "fnExactRoomOn", fn := fun _ => fun
  | [d1, d2, d3] => { results := [.lit (.bool true)], args := [d1, d2, d3] }
  | _ => none }
def fnExactRoomOnRow : OpenClaim := { program := "ytphjpngpmhammaa", sum := "84a5c51cba78cfae442532dc81bbc8bee93556debe3cf2e526dcdf4c734eeb83", func := "loop.example/g00953/laws.FnExactRoomOn", spec := "fnExactRoomOn", unfollowed := true, recurses := true, apart := false }
def FnExactRoomOnSaid : Prop := fnExactRoomOnRow.holds Try.pinned (OpenSpec.ofChange fnExactRoomOnSpec)

/-- ITS FALSE NEIGHBOUR: 'it returns false'. Refute it at one input. -/
def fnExactRoomOnWrong : ChangeSpec := { name := "fnExactRoomOn", fn := fun _ => fun
  | [d1, d2, d3] => { results := [.lit (.bool false)], args := [d1, d2, d3] }
  | _ => none }
def FnExactRoomOnWrongFalsely : Prop := fnExactRoomOnRow.holds Try.pinned (OpenSpec.ofChange fnExactRoomOnWrong)

/-- 'laws.FnExactDropEntry': WHATEVER THE INPUT: true; the input reads as it did. -/
def fnExactDropEntrySpec : ChangeSpec := { name := "fnExactDropEntry", fn := fun _ => fun
  | [d1, d2] => { results := [.lit (.bool true)], args := [d1, d2] }
  | _ => none }
def fnExactDropEntryRow : OpenClaim := { program := "ytphjpngpmhammaa", sum := "84a5c51cba78cfae442532dc81bbc8bee93556debe3cf2e526dcdf4c734eeb83", func := "loop.example/g00953/laws.FnExactDropEntry", spec := "fnExactDropEntry", unfollowed := true, recurses := true, apart := false }
def FnExactDropEntrySaid : Prop := fnExactDropEntryRow.holds Try.pinned (OpenSpec.ofChange fnExactDropEntrySpec)

/-- ITS FALSE NEIGHBOUR: 'it returns false'. Refute it at one input. -/
def fnExactDropEntryWrong : ChangeSpec := { name := "fnExactDropEntry", fn := fun _ => fun
  | [d1, d2] => { results := [.lit (.bool false)], args := [d1, d2] }
  | _ => none }
def FnExactDropEntryWrongFalsely : Prop := fnExactDropEntryRow.holds Try.pinned (OpenSpec.ofChange fnExactDropEntryWrong)

/-- 'laws.FnExactShortSpares': WHATEVER THE INPUT: true; the input reads as it did. -/
def fnExactShortSparesSpec : ChangeSpec := { name := "fnExactShortSpares", fn := fun _ => fun
  | [d1, d2] => { results := [.lit (.bool true)], args := [d1, d2] }
  | _ => none }
def fnExactShortSparesRow : OpenClaim := { program := "ytphjpngpmhammaa", sum := "84a5c51cba78cfae442532dc81bbc8bee93556debe3cf2e526dcdf4c734eeb83", func := "loop.example/g00953/laws.FnExactShortSpares", spec := "fnExactShortSpares", unfollowed := true, recurses := true, apart := false }
def FnExactShortSparesSaid : Prop := fnExactShortSparesRow.holds Try.pinned (OpenSpec.ofChange fnExactShortSparesSpec)

/-- ITS FALSE NEIGHBOUR: 'it returns false'. Refute it at one input. -/
def fnExactShortSparesWrong : ChangeSpec := { name := "fnExactShortSpares", fn := fun _ => fun
  | [d1, d2] => { results := [.lit (.bool false)], args := [d1, d2] }
  | _ => none }
def FnExactShortSparesWrongFalsely : Prop := fnExactShortSparesRow.holds Try.pinned (OpenSpec.ofChange fnExactShortSparesWrong)

/-- 'laws.FnStores': WHATEVER THE INPUT: true; the input reads as it did. -/
def fnStoresSpec : ChangeSpec := { name := "fnStores", fn := fun _ => fun
  | [d1, d2] => { results := [.lit (.bool true)], args := [d1, d2] }
  | _ => none }
def fnStoresRow : OpenClaim := { program := "ytphjpngpmhammaa", sum := "84a5c51cba78cfae442532dc81bbc8bee93556debe3cf2e526dcdf4c734eeb83", func := "loop.example/g00953/laws.FnStores", spec := "fnStores", inPlace := ["slices.overlaps[loop.example/g00953/impl.Entry]"], unfollowed := true, recurses := true, apart := false }
def FnStoresSaid : Prop := fnStoresRow.holds Try.pinned (OpenSpec.ofChange fnStoresSpec)

/-- ITS FALSE NEIGHBOUR: 'it returns false'. Refute it at one input. -/
def fnStoresWrong : ChangeSpec := { name := "fnStores", fn := fun _ => fun
  | [d1, d2] => { results := [.lit (.bool false)], args := [d1, d2] }
  | _ => none }
def FnStoresWrongFalsely : Prop := fnStoresRow.holds Try.pinned (OpenSpec.ofChange fnStoresWrong)

/-- 'laws.FnExactAddSpare': WHATEVER THE INPUT: true; the input reads as it did. -/
def fnExactAddSpareSpec : ChangeSpec := { name := "fnExactAddSpare", fn := fun _ => fun
  | [d1, d2] => { results := [.lit (.bool true)], args := [d1, d2] }
  | _ => none }
def fnExactAddSpareRow : OpenClaim := { program := "ytphjpngpmhammaa", sum := "84a5c51cba78cfae442532dc81bbc8bee93556debe3cf2e526dcdf4c734eeb83", func := "loop.example/g00953/laws.FnExactAddSpare", spec := "fnExactAddSpare", inPlace := ["slices.overlaps[loop.example/g00953/impl.Spare]"], unfollowed := true, recurses := true, apart := false }
def FnExactAddSpareSaid : Prop := fnExactAddSpareRow.holds Try.pinned (OpenSpec.ofChange fnExactAddSpareSpec)

/-- ITS FALSE NEIGHBOUR: 'it returns false'. Refute it at one input. -/
def fnExactAddSpareWrong : ChangeSpec := { name := "fnExactAddSpare", fn := fun _ => fun
  | [d1, d2] => { results := [.lit (.bool false)], args := [d1, d2] }
  | _ => none }
def FnExactAddSpareWrongFalsely : Prop := fnExactAddSpareRow.holds Try.pinned (OpenSpec.ofChange fnExactAddSpareWrong)

/-- 'laws.FnExactAddEntry': WHATEVER THE INPUT: true; the input reads as it did. -/
def fnExactAddEntrySpec : ChangeSpec := { name := "fnExactAddEntry", fn := fun _ => fun
  | [d1, d2] => { results := [.lit (.bool true)], args := [d1, d2] }
  | _ => none }
def fnExactAddEntryRow : OpenClaim := { program := "ytphjpngpmhammaa", sum := "84a5c51cba78cfae442532dc81bbc8bee93556debe3cf2e526dcdf4c734eeb83", func := "loop.example/g00953/laws.FnExactAddEntry", spec := "fnExactAddEntry", inPlace := ["slices.overlaps[loop.example/g00953/impl.Entry]"], unfollowed := true, recurses := true, apart := false }
def FnExactAddEntrySaid : Prop := fnExactAddEntryRow.holds Try.pinned (OpenSpec.ofChange fnExactAddEntrySpec)

/-- ITS FALSE NEIGHBOUR: 'it returns false'. Refute it at one input. -/
def fnExactAddEntryWrong : ChangeSpec := { name := "fnExactAddEntry", fn := fun _ => fun
  | [d1, d2] => { results := [.lit (.bool false)], args := [d1, d2] }
  | _ => none }
def FnExactAddEntryWrongFalsely : Prop := fnExactAddEntryRow.holds Try.pinned (OpenSpec.ofChange fnExactAddEntryWrong)

/-- 'laws.FnExactTakeAll': WHATEVER THE INPUT: true; the input reads as it did. -/
def fnExactTakeAllSpec : ChangeSpec := { name := "fnExactTakeAll", fn := fun _ => fun
  | [d1, d2, d3] => { results := [.lit (.bool true)], args := [d1, d2, d3] }
  | _ => none }
def fnExactTakeAllRow : OpenClaim := { program := "ytphjpngpmhammaa", sum := "84a5c51cba78cfae442532dc81bbc8bee93556debe3cf2e526dcdf4c734eeb83", func := "loop.example/g00953/laws.FnExactTakeAll", spec := "fnExactTakeAll", inPlace := ["slices.overlaps[loop.example/g00953/impl.Entry]"], unfollowed := true, recurses := true, apart := false }
def FnExactTakeAllSaid : Prop := fnExactTakeAllRow.holds Try.pinned (OpenSpec.ofChange fnExactTakeAllSpec)

/-- ITS FALSE NEIGHBOUR: 'it returns false'. Refute it at one input. -/
def fnExactTakeAllWrong : ChangeSpec := { name := "fnExactTakeAll", fn := fun _ => fun
  | [d1, d2, d3] => { results := [.lit (.bool false)], args := [d1, d2, d3] }
  | _ => none }
def FnExactTakeAllWrongFalsely : Prop := fnExactTakeAllRow.holds Try.pinned (OpenSpec.ofChange fnExactTakeAllWrong)

/- THE SECOND FORM. 'bulk': how many values and letters a reading holds, each counted each time it is reached (what is shared counts as often as it is met; a slice's spare places count too). A statement '..UptoSaid' is the law's where the arguments, and the package variables that the reading takes, are together of bulk at most 1048576: NARROWER than '..Said'. Prove '..Said' where nothing that the law and all that it calls make is longer than what came in: it says more and counts as full. Else prove '..UptoSaid'. A law counts once. -/
mutual
def uptoBulk {H : Type} : DataW H → Nat
  | .lit (.string bytes) => bytes.length + 1
  | .lit _ => 1
  | .nil => 1
  | .ptr d => uptoBulk d + 1
  | .slice elems spare => uptoBulkAll elems + uptoBulkAll spare + 1
  | .agg parts => uptoBulkAll parts + 1
  | .iface _ d => uptoBulk d + 1
  | .map entries => uptoBulkEntries entries + 1
  | .held _ => 1
def uptoBulkAll {H : Type} : List (DataW H) → Nat
  | [] => 0
  | d :: r => uptoBulk d + uptoBulkAll r
def uptoBulkEntries {H : Type} : List (Lit × DataW H) → Nat
  | [] => 0
  | x :: r => uptoBulkEntry x + uptoBulkEntries r
def uptoBulkEntry {H : Type} : Lit × DataW H → Nat
  | (.string bytes, d) => bytes.length + uptoBulk d + 1
  | (_, d) => uptoBulk d + 1
 end
def uptoSmall : (H : Type) → List (DataW H) → Bool := fun _ ds => decide (uptoBulkAll ds ≤ 1048576)
def OpenSpec.upto (s : _root_.Go.ChangeSpec) : _root_.Go.OpenSpec := { _root_.Go.OpenSpec.ofChange s with cond := some uptoSmall }

/-- 'laws.FnExactValidStore', WHERE WHAT IT READS IS OF BULK AT MOST 1048576: true; the input reads as it did. -/
def fnExactValidStoreUptoRow : OpenClaim := { program := "ytphjpngpmhammaa", sum := "84a5c51cba78cfae442532dc81bbc8bee93556debe3cf2e526dcdf4c734eeb83", func := "loop.example/g00953/laws.FnExactValidStore", spec := "fnExactValidStore", unfollowed := true, recurses := true, apart := false, narrowed := true }
def FnExactValidStoreUptoSaid : Prop := fnExactValidStoreUptoRow.holds Try.pinned (OpenSpec.upto fnExactValidStoreSpec)

/-- 'laws.FnExactMergeItems', WHERE WHAT IT READS IS OF BULK AT MOST 1048576: true; the input reads as it did. -/
def fnExactMergeItemsUptoRow : OpenClaim := { program := "ytphjpngpmhammaa", sum := "84a5c51cba78cfae442532dc81bbc8bee93556debe3cf2e526dcdf4c734eeb83", func := "loop.example/g00953/laws.FnExactMergeItems", spec := "fnExactMergeItems", inPlace := ["slices.overlaps[loop.example/g00953/impl.Item]"], apart := false, narrowed := true }
def FnExactMergeItemsUptoSaid : Prop := fnExactMergeItemsUptoRow.holds Try.pinned (OpenSpec.upto fnExactMergeItemsSpec)

/-- 'laws.FnExactPutItem', WHERE WHAT IT READS IS OF BULK AT MOST 1048576: true; the input reads as it did. -/
def fnExactPutItemUptoRow : OpenClaim := { program := "ytphjpngpmhammaa", sum := "84a5c51cba78cfae442532dc81bbc8bee93556debe3cf2e526dcdf4c734eeb83", func := "loop.example/g00953/laws.FnExactPutItem", spec := "fnExactPutItem", inPlace := ["slices.overlaps[loop.example/g00953/impl.Item]"], apart := false, narrowed := true }
def FnExactPutItemUptoSaid : Prop := fnExactPutItemUptoRow.holds Try.pinned (OpenSpec.upto fnExactPutItemSpec)

/-- 'laws.FnExactStockOn', WHERE WHAT IT READS IS OF BULK AT MOST 1048576: true; the input reads as it did. -/
def fnExactStockOnUptoRow : OpenClaim := { program := "ytphjpngpmhammaa", sum := "84a5c51cba78cfae442532dc81bbc8bee93556debe3cf2e526dcdf4c734eeb83", func := "loop.example/g00953/laws.FnExactStockOn", spec := "fnExactStockOn", unfollowed := true, recurses := true, apart := false, narrowed := true }
def FnExactStockOnUptoSaid : Prop := fnExactStockOnUptoRow.holds Try.pinned (OpenSpec.upto fnExactStockOnSpec)

/-- 'laws.FnExactFreeOn', WHERE WHAT IT READS IS OF BULK AT MOST 1048576: true; the input reads as it did. -/
def fnExactFreeOnUptoRow : OpenClaim := { program := "ytphjpngpmhammaa", sum := "84a5c51cba78cfae442532dc81bbc8bee93556debe3cf2e526dcdf4c734eeb83", func := "loop.example/g00953/laws.FnExactFreeOn", spec := "fnExactFreeOn", unfollowed := true, recurses := true, apart := false, narrowed := true }
def FnExactFreeOnUptoSaid : Prop := fnExactFreeOnUptoRow.holds Try.pinned (OpenSpec.upto fnExactFreeOnSpec)

/-- 'laws.FnExactRoomOn', WHERE WHAT IT READS IS OF BULK AT MOST 1048576: true; the input reads as it did. -/
def fnExactRoomOnUptoRow : OpenClaim := { program := "ytphjpngpmhammaa", sum := "84a5c51cba78cfae442532dc81bbc8bee93556debe3cf2e526dcdf4c734eeb83", func := "loop.example/g00953/laws.FnExactRoomOn", spec := "fnExactRoomOn", unfollowed := true, recurses := true, apart := false, narrowed := true }
def FnExactRoomOnUptoSaid : Prop := fnExactRoomOnUptoRow.holds Try.pinned (OpenSpec.upto fnExactRoomOnSpec)

/-- 'laws.FnExactDropEntry', WHERE WHAT IT READS IS OF BULK AT MOST 1048576: true; the input reads as it did. -/
def fnExactDropEntryUptoRow : OpenClaim := { program := "ytphjpngpmhammaa", sum := "84a5c51cba78cfae442532dc81bbc8bee93556debe3cf2e526dcdf4c734eeb83", func := "loop.example/g00953/laws.FnExactDropEntry", spec := "fnExactDropEntry", unfollowed := true, recurses := true, apart := false, narrowed := true }
def FnExactDropEntryUptoSaid : Prop := fnExactDropEntryUptoRow.holds Try.pinned (OpenSpec.upto fnExactDropEntrySpec)

/-- 'laws.FnExactShortSpares', WHERE WHAT IT READS IS OF BULK AT MOST 1048576: true; the input reads as it did. -/
def fnExactShortSparesUptoRow : OpenClaim := { program := "ytphjpngpmhammaa", sum := "84a5c51cba78cfae442532dc81bbc8bee93556debe3cf2e526dcdf4c734eeb83", func := "loop.example/g00953/laws.FnExactShortSpares", spec := "fnExactShortSpares", unfollowed := true, recurses := true, apart := false, narrowed := true }
def FnExactShortSparesUptoSaid : Prop := fnExactShortSparesUptoRow.holds Try.pinned (OpenSpec.upto fnExactShortSparesSpec)

/-- 'laws.FnStores', WHERE WHAT IT READS IS OF BULK AT MOST 1048576: true; the input reads as it did. -/
def fnStoresUptoRow : OpenClaim := { program := "ytphjpngpmhammaa", sum := "84a5c51cba78cfae442532dc81bbc8bee93556debe3cf2e526dcdf4c734eeb83", func := "loop.example/g00953/laws.FnStores", spec := "fnStores", inPlace := ["slices.overlaps[loop.example/g00953/impl.Entry]"], unfollowed := true, recurses := true, apart := false, narrowed := true }
def FnStoresUptoSaid : Prop := fnStoresUptoRow.holds Try.pinned (OpenSpec.upto fnStoresSpec)

/-- 'laws.FnExactAddSpare', WHERE WHAT IT READS IS OF BULK AT MOST 1048576: true; the input reads as it did. -/
def fnExactAddSpareUptoRow : OpenClaim := { program := "ytphjpngpmhammaa", sum := "84a5c51cba78cfae442532dc81bbc8bee93556debe3cf2e526dcdf4c734eeb83", func := "loop.example/g00953/laws.FnExactAddSpare", spec := "fnExactAddSpare", inPlace := ["slices.overlaps[loop.example/g00953/impl.Spare]"], unfollowed := true, recurses := true, apart := false, narrowed := true }
def FnExactAddSpareUptoSaid : Prop := fnExactAddSpareUptoRow.holds Try.pinned (OpenSpec.upto fnExactAddSpareSpec)

/-- 'laws.FnExactAddEntry', WHERE WHAT IT READS IS OF BULK AT MOST 1048576: true; the input reads as it did. -/
def fnExactAddEntryUptoRow : OpenClaim := { program := "ytphjpngpmhammaa", sum := "84a5c51cba78cfae442532dc81bbc8bee93556debe3cf2e526dcdf4c734eeb83", func := "loop.example/g00953/laws.FnExactAddEntry", spec := "fnExactAddEntry", inPlace := ["slices.overlaps[loop.example/g00953/impl.Entry]"], unfollowed := true, recurses := true, apart := false, narrowed := true }
def FnExactAddEntryUptoSaid : Prop := fnExactAddEntryUptoRow.holds Try.pinned (OpenSpec.upto fnExactAddEntrySpec)

/-- 'laws.FnExactTakeAll', WHERE WHAT IT READS IS OF BULK AT MOST 1048576: true; the input reads as it did. -/
def fnExactTakeAllUptoRow : OpenClaim := { program := "ytphjpngpmhammaa", sum := "84a5c51cba78cfae442532dc81bbc8bee93556debe3cf2e526dcdf4c734eeb83", func := "loop.example/g00953/laws.FnExactTakeAll", spec := "fnExactTakeAll", inPlace := ["slices.overlaps[loop.example/g00953/impl.Entry]"], unfollowed := true, recurses := true, apart := false, narrowed := true }
def FnExactTakeAllUptoSaid : Prop := fnExactTakeAllUptoRow.holds Try.pinned (OpenSpec.upto fnExactTakeAllSpec)

end Rows
end Go.Proofs.Ytphjpngpmhammaa
