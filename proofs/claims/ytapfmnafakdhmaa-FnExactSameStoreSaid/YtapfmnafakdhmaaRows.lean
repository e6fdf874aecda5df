/-
  No cell of these rows narrows 'for every input' (looked for: loops, veiled, ifaces, maps, wideKeys, modest, calm, conditions, laid).
  DERIVED. THE GIVEN ROWS OF THIS SEAT. 11 by the template 'for every input the law returns true; each argument reads behind the call as it read before'; 0 by the template 'total and deterministic' (their statements: YtapfmnafakdhmaaTotals.lean).
  GIVEN WITH THE SEED: the statements are not yours to turn. If you find one false, say at which input.
  Laid BY PROGRAM, IN A SANDBOX (cutbox-rows.mjs): the forced cells as the released guide's own fill.sh prints them over the translation 54573ff9664f2b75… (all of the seat's roots in one cut). By AI agents, Wed Nov 11 2026. No macro, syntax, notation, axiom, sorry.
-/
import Derived.Test.YtapfmnafakdhmaaChecked
import GoSem.Claim
import GoSem.ClaimJoined
import GoSem.ClaimMapViews
import Derived.JoinedTies
import Derived.KernelRfl
namespace Go.Proofs.Ytapfmnafakdhmaa
/- THE CELL 'sum', in the pinned program and in every row, IS THE sha256 OF THE DUMP (.gsa) THAT YtapfmnafakdhmaaProg.lean LOADS. Nothing in Lean hashes anything: it is a label: what it is worth is what the hold of that sum in a sandbox is worth. -/
noncomputable def Try.pinned : Pinned := { name := "ytapfmnafakdhmaa", sum := "54573ff9664f2b75e684c55cb2cc563f29b4b1499601c1da0a527c5a8c06fd78", checked := Try.checked }
namespace Rows
def none {H : Type} : Left H := { results := [], args := [] }

/-- 'laws.FnExactValidFaults': WHATEVER THE INPUT: true; the input reads as it did. -/
def fnExactValidFaultsSpec : ChangeSpec := { name := "fnExactValidFaults", fn := fun _ => fun
  | [d] => { results := [.lit (.bool true)], args := [d] }
  | _ => none }
def fnExactValidFaultsRow : OpenClaim := { program := "ytapfmnafakdhmaa", sum := "54573ff9664f2b75e684c55cb2cc563f29b4b1499601c1da0a527c5a8c06fd78", func := "loop.example/g00953/laws.FnExactValidFaults", spec := "fnExactValidFaults", unfollowed := true, recurses := true, apart := false }
def FnExactValidFaultsSaid : Prop := fnExactValidFaultsRow.holds Try.pinned (OpenSpec.ofChange fnExactValidFaultsSpec)

/-- ITS FALSE NEIGHBOUR: 'it returns false'. Refute it at one input. -/
def fnExactValidFaultsWrong : ChangeSpec := { name := "fnExactValidFaults", fn := fun _ => fun
  | [d] => { results := [.lit (.bool false)], args := [d] }
  | _ => none }
def FnExactValidFaultsWrongFalsely : Prop := fnExactValidFaultsRow.holds Try.pinned (OpenSpec.ofChange fnExactValidFaultsWrong)

/-- 'laws.FnExactMarkVisited': WHATEVER THE INPUT: true; the input reads as it did. -/
def fnExactMarkVisitedSpec : ChangeSpec := { name := "fnExactMarkVisited", fn := fun _ => fun
  | [d1, d2, d3] => { results := [.lit (.bool true)], args := [d1, d2, d3] }
  | _ => none }
def fnExactMarkVisitedRow : OpenClaim := { program := "ytapfmnafakdhmaa", sum := "54573ff9664f2b75e684c55cb2cc563f29b4b1499601c1da0a527c5a8c06fd78", func := "loop.example/g00953/laws.FnExactMarkVisited", spec := "fnExactMarkVisited", unfollowed := true, recurses := true, apart := false }
def FnExactMarkVisitedSaid : Prop := fnExactMarkVisitedRow.holds Try.pinned (OpenSpec.ofChange fnExactMarkVisitedSpec)

/-- ITS FALSE NEIGHBOUR: 'it returns false'. Refute it at one input. -/
def fnExactMarkVisitedWrong : ChangeSpec := { name := "fnExactMarkVisited", fn := fun _ => fun
  | [d1, d2, d3] => { results := [.lit (.bool false)], args := [d1, d2, d3] }
  | _ => none }
def FnExactMarkVisitedWrongFalsely : Prop := fnExactMarkVisitedRow.holds Try.pinned (OpenSpec.ofChange fnExactMarkVisitedWrong)

/-- 'laws.FnExactSameStore': WHATEVER THE INPUT: true; the input reads as it did. -/
def fnExactSameStoreSpec : ChangeSpec := { name := "fnExactSameStore", fn := fun _ => fun
  | [d1, d2] => { results := [.lit (.bool true)], args := [d1, d2] }
  | _ => none }
def fnExactSameStoreRow : OpenClaim := { program := "ytapfmnafakdhmaa", sum := "54573ff9664f2b75e684c55cb2cc563f29b4b1499601c1da0a527c5a8c06fd78", func := "loop.example/g00953/laws.FnExactSameStore", spec := "fnExactSameStore", apart := false }
def FnExactSameStoreSaid : Prop := fnExactSameStoreRow.holds Try.pinned (OpenSpec.ofChange fnExactSameStoreSpec)

/-- ITS FALSE NEIGHBOUR: 'it returns false'. Refute it at one input. -/
def fnExactSameStoreWrong : ChangeSpec := { name := "fnExactSameStore", fn := fun _ => fun
  | [d1, d2] => { results := [.lit (.bool false)], args := [d1, d2] }
  | _ => none }
def FnExactSameStoreWrongFalsely : Prop := fnExactSameStoreRow.holds Try.pinned (OpenSpec.ofChange fnExactSameStoreWrong)

/-- 'laws.FnExactValidDuties': WHATEVER THE INPUT: true; the input reads as it did. -/
def fnExactValidDutiesSpec : ChangeSpec := { name := "fnExactValidDuties", fn := fun _ => fun
  | [d] => { results := [.lit (.bool true)], args := [d] }
  | _ => none }
def fnExactValidDutiesRow : OpenClaim := { program := "ytapfmnafakdhmaa", sum := "54573ff9664f2b75e684c55cb2cc563f29b4b1499601c1da0a527c5a8c06fd78", func := "loop.example/g00953/laws.FnExactValidDuties", spec := "fnExactValidDuties", unfollowed := true, recurses := true, apart := false }
def FnExactValidDutiesSaid : Prop := fnExactValidDutiesRow.holds Try.pinned (OpenSpec.ofChange fnExactValidDutiesSpec)

/-- ITS FALSE NEIGHBOUR: 'it returns false'. Refute it at one input. -/
def fnExactValidDutiesWrong : ChangeSpec := { name := "fnExactValidDuties", fn := fun _ => fun
  | [d] => { results := [.lit (.bool false)], args := [d] }
  | _ => none }
def FnExactValidDutiesWrongFalsely : Prop := fnExactValidDutiesRow.holds Try.pinned (OpenSpec.ofChange fnExactValidDutiesWrong)

/-- 'laws.FnExactMeanRepair': WHATEVER THE INPUT: true; the input reads as it did. -/
def fnExactMeanRepairSpec : ChangeSpec := { name := "fnExactMeanRepair", fn := fun _ => fun
  | [d] => { results := [.lit (.bool true)], args := [d] }
  | _ => none }
def fnExactMeanRepairRow : OpenClaim := { program := "ytapfmnafakdhmaa", sum := "54573ff9664f2b75e684c55cb2cc563f29b4b1499601c1da0a527c5a8c06fd78", func := "loop.example/g00953/laws.FnExactMeanRepair", spec := "fnExactMeanRepair", unfollowed := true, recurses := true, apart := false }
def FnExactMeanRepairSaid : Prop := fnExactMeanRepairRow.holds Try.pinned (OpenSpec.ofChange fnExactMeanRepairSpec)

/-- ITS FALSE NEIGHBOUR: 'it returns false'. Refute it at one input. -/
def fnExactMeanRepairWrong : ChangeSpec := { name := "fnExactMeanRepair", fn := fun _ => fun
  | [d] => { results := [.lit (.bool false)], args := [d] }
  | _ => none }
def FnExactMeanRepairWrongFalsely : Prop := fnExactMeanRepairRow.holds Try.pinned (OpenSpec.ofChange fnExactMeanRepairWrong)

/-- 'laws.FnExactRepairFault': WHATEVER THE INPUT: true; the input reads as it did. -/
def fnExactRepairFaultSpec : ChangeSpec := { name := "fnExactRepairFault", fn := fun _ => fun
  | [d1, d2, d3, d4] => { results := [.lit (.bool true)], args := [d1, d2, d3, d4] }
  | _ => none }
def fnExactRepairFaultRow : OpenClaim := { program := "ytapfmnafakdhmaa", sum := "54573ff9664f2b75e684c55cb2cc563f29b4b1499601c1da0a527c5a8c06fd78", func := "loop.example/g00953/laws.FnExactRepairFault", spec := "fnExactRepairFault", unfollowed := true, recurses := true, apart := false }
def FnExactRepairFaultSaid : Prop := fnExactRepairFaultRow.holds Try.pinned (OpenSpec.ofChange fnExactRepairFaultSpec)

/-- ITS FALSE NEIGHBOUR: 'it returns false'. Refute it at one input. -/
def fnExactRepairFaultWrong : ChangeSpec := { name := "fnExactRepairFault", fn := fun _ => fun
  | [d1, d2, d3, d4] => { results := [.lit (.bool false)], args := [d1, d2, d3, d4] }
  | _ => none }
def FnExactRepairFaultWrongFalsely : Prop := fnExactRepairFaultRow.holds Try.pinned (OpenSpec.ofChange fnExactRepairFaultWrong)

/-- 'laws.FnExactOpenFaults': WHATEVER THE INPUT: true; the input reads as it did. -/
def fnExactOpenFaultsSpec : ChangeSpec := { name := "fnExactOpenFaults", fn := fun _ => fun
  | [d] => { results := [.lit (.bool true)], args := [d] }
  | _ => none }
def fnExactOpenFaultsRow : OpenClaim := { program := "ytapfmnafakdhmaa", sum := "54573ff9664f2b75e684c55cb2cc563f29b4b1499601c1da0a527c5a8c06fd78", func := "loop.example/g00953/laws.FnExactOpenFaults", spec := "fnExactOpenFaults", unfollowed := true, recurses := true, apart := false }
def FnExactOpenFaultsSaid : Prop := fnExactOpenFaultsRow.holds Try.pinned (OpenSpec.ofChange fnExactOpenFaultsSpec)

/-- ITS FALSE NEIGHBOUR: 'it returns false'. Refute it at one input. -/
def fnExactOpenFaultsWrong : ChangeSpec := { name := "fnExactOpenFaults", fn := fun _ => fun
  | [d] => { results := [.lit (.bool false)], args := [d] }
  | _ => none }
def FnExactOpenFaultsWrongFalsely : Prop := fnExactOpenFaultsRow.holds Try.pinned (OpenSpec.ofChange fnExactOpenFaultsWrong)

/-- 'laws.FnExactDownTime': WHATEVER THE INPUT: true; the input reads as it did. -/
def fnExactDownTimeSpec : ChangeSpec := { name := "fnExactDownTime", fn := fun _ => fun
  | [d1, d2, d3, d4] => { results := [.lit (.bool true)], args := [d1, d2, d3, d4] }
  | _ => none }
def fnExactDownTimeRow : OpenClaim := { program := "ytapfmnafakdhmaa", sum := "54573ff9664f2b75e684c55cb2cc563f29b4b1499601c1da0a527c5a8c06fd78", func := "loop.example/g00953/laws.FnExactDownTime", spec := "fnExactDownTime", unfollowed := true, recurses := true, apart := false }
def FnExactDownTimeSaid : Prop := fnExactDownTimeRow.holds Try.pinned (OpenSpec.ofChange fnExactDownTimeSpec)

/-- ITS FALSE NEIGHBOUR: 'it returns false'. Refute it at one input. -/
def fnExactDownTimeWrong : ChangeSpec := { name := "fnExactDownTime", fn := fun _ => fun
  | [d1, d2, d3, d4] => { results := [.lit (.bool false)], args := [d1, d2, d3, d4] }
  | _ => none }
def FnExactDownTimeWrongFalsely : Prop := fnExactDownTimeRow.holds Try.pinned (OpenSpec.ofChange fnExactDownTimeWrong)

/-- 'laws.FnExactAvailabilityOf': WHATEVER THE INPUT: true; the input reads as it did. -/
def fnExactAvailabilityOfSpec : ChangeSpec := { name := "fnExactAvailabilityOf", fn := fun _ => fun
  | [d1, d2, d3, d4] => { results := [.lit (.bool true)], args := [d1, d2, d3, d4] }
  | _ => none }
def fnExactAvailabilityOfRow : OpenClaim := { program := "ytapfmnafakdhmaa", sum := "54573ff9664f2b75e684c55cb2cc563f29b4b1499601c1da0a527c5a8c06fd78", func := "loop.example/g00953/laws.FnExactAvailabilityOf", spec := "fnExactAvailabilityOf", unfollowed := true, recurses := true, apart := false }
def FnExactAvailabilityOfSaid : Prop := fnExactAvailabilityOfRow.holds Try.pinned (OpenSpec.ofChange fnExactAvailabilityOfSpec)

/-- ITS FALSE NEIGHBOUR: 'it returns false'. Refute it at one input. -/
def fnExactAvailabilityOfWrong : ChangeSpec := { name := "fnExactAvailabilityOf", fn := fun _ => fun
  | [d1, d2, d3, d4] => { results := [.lit (.bool false)], args := [d1, d2, d3, d4] }
  | _ => none }
def FnExactAvailabilityOfWrongFalsely : Prop := fnExactAvailabilityOfRow.holds Try.pinned (OpenSpec.ofChange fnExactAvailabilityOfWrong)

/-- 'laws.FnExactLeastRest': WHATEVER THE INPUT: true; the input reads as it did. -/
def fnExactLeastRestSpec : ChangeSpec := { name := "fnExactLeastRest", fn := fun _ => fun
  | [d1, d2] => { results := [.lit (.bool true)], args := [d1, d2] }
  | _ => none }
def fnExactLeastRestRow : OpenClaim := { program := "ytapfmnafakdhmaa", sum := "54573ff9664f2b75e684c55cb2cc563f29b4b1499601c1da0a527c5a8c06fd78", func := "loop.example/g00953/laws.FnExactLeastRest", spec := "fnExactLeastRest", unfollowed := true, recurses := true, apart := false }
def FnExactLeastRestSaid : Prop := fnExactLeastRestRow.holds Try.pinned (OpenSpec.ofChange fnExactLeastRestSpec)

/-- ITS FALSE NEIGHBOUR: 'it returns false'. Refute it at one input. -/
def fnExactLeastRestWrong : ChangeSpec := { name := "fnExactLeastRest", fn := fun _ => fun
  | [d1, d2] => { results := [.lit (.bool false)], args := [d1, d2] }
  | _ => none }
def FnExactLeastRestWrongFalsely : Prop := fnExactLeastRestRow.holds Try.pinned (OpenSpec.ofChange fnExactLeastRestWrong)

/-- 'laws.FnExactMeetsCategory': WHATEVER THE INPUT: true; the input reads as it did. -/
def fnExactMeetsCategorySpec : ChangeSpec := { name := "fnExactMeetsCategory", fn := fun _ => fun
  | [d1, d2, d3, d4, d5] => { results := [.lit (.bool true)], args := [d1, d2, d3, d4, d5] }
  | _ => none }
def fnExactMeetsCategoryRow : OpenClaim := { program := "ytapfmnafakdhmaa", sum := "54573ff9664f2b75e684c55cb2cc563f29b4b1499601c1da0a527c5a8c06fd78", func := "loop.example/g00953/laws.FnExactMeetsCategory", spec := "fnExactMeetsCategory", unfollowed := true, recurses := true, apart := false }
def FnExactMeetsCategorySaid : Prop := fnExactMeetsCategoryRow.holds Try.pinned (OpenSpec.ofChange fnExactMeetsCategorySpec)

/-- ITS FALSE NEIGHBOUR: 'it returns false'. Refute it at one input. -/
def fnExactMeetsCategoryWrong : ChangeSpec := { name := "fnExactMeetsCategory", fn := fun _ => fun
  | [d1, d2, d3, d4, d5] => { results := [.lit (.bool false)], args := [d1, d2, d3, d4, d5] }
  | _ => none }
def FnExactMeetsCategoryWrongFalsely : Prop := fnExactMeetsCategoryRow.holds Try.pinned (OpenSpec.ofChange fnExactMeetsCategoryWrong)

/- THE SECOND FORM. 'bulk': how many values and letters a reading holds, each counted each time it is reached (what is shared counts as often as it is met; a slice's spare places count too). A statement '..UptoSaid' is the law's where the arguments, and the package variables that the reading takes, are together of bulk at most 1048576: NARROWER than '..Said'. Prove '..Said' where nothing that the law and all that it calls make is longer than what came in: it says more and counts as full. Else prove '..UptoSaid'. A law counts once. -/
mutual
def uptoBulk {H : Type} : DataW H → Nat
  | .lit (.string bytes) => bytes.length + 1
  | .lit _ => 1
  | .nil => 1
  | .ptr d => uptoBulk d + 1
  | .slice elems spare => uptoBulkAll elems + uptoBulkAll spare + 1
  | .agg parts => uptoBulkAll parts + 1
  | .iface _ d => uptoBulk d + 1
  | .map entries => uptoBulkEntries entries + 1
  | .held _ => 1
def uptoBulkAll {H : Type} : List (DataW H) → Nat
  | [] => 0
  | d :: r => uptoBulk d + uptoBulkAll r
def uptoBulkEntries {H : Type} : List (Lit × DataW H) → Nat
  | [] => 0
  | x :: r => uptoBulkEntry x + uptoBulkEntries r
def uptoBulkEntry {H : Type} : Lit × DataW H → Nat
  | (.string bytes, d) => bytes.length + uptoBulk d + 1
  | (_, d) => uptoBulk d + 1
 end
def uptoSmall : (H : Type) → List (DataW H) → Bool := fun _ ds => decide (uptoBulkAll ds ≤ 1048576)
def OpenSpec.upto (s : _root_.Go.ChangeSpec) : _root_.Go.OpenSpec := { _root_.Go.OpenSpec.ofChange s with cond := some uptoSmall }

/-- 'laws.FnExactValidFaults', WHERE WHAT IT READS IS OF BULK AT MOST 1048576: true; the input reads as it did. -/
def fnExactValidFaultsUptoRow : OpenClaim := { program := "ytapfmnafakdhmaa", sum := "54573ff9664f2b75e684c55cb2cc563f29b4b1499601c1da0a527c5a8c06fd78", func := "loop.example/g00953/laws.FnExactValidFaults", spec := "fnExactValidFaults", unfollowed := true, recurses := true, apart := false, narrowed := true }
def FnExactValidFaultsUptoSaid : Prop := fnExactValidFaultsUptoRow.holds Try.pinned (OpenSpec.upto fnExactValidFaultsSpec)

/-- 'laws.FnExactMarkVisited', WHERE WHAT IT READS IS OF BULK AT MOST 1048576: true; the input reads as it did. -/
def fnExactMarkVisitedUptoRow : OpenClaim := { program := "ytapfmnafakdhmaa", sum := "54573ff9664f2b75e684c55cb2cc563f29b4b1499601c1da0a527c5a8c06fd78", func := "loop.example/g00953/laws.FnExactMarkVisited", spec := "fnExactMarkVisited", unfollowed := true, recurses := true, apart := false, narrowed := true }
def FnExactMarkVisitedUptoSaid : Prop := fnExactMarkVisitedUptoRow.holds Try.pinned (OpenSpec.upto fnExactMarkVisitedSpec)

/-- 'laws.FnExactSameStore', WHERE WHAT IT READS IS OF BULK AT MOST 1048576: true; the input reads as it did. -/
def fnExactSameStoreUptoRow : OpenClaim := { program := "ytapfmnafakdhmaa", sum := "54573ff9664f2b75e684c55cb2cc563f29b4b1499601c1da0a527c5a8c06fd78", func := "loop.example/g00953/laws.FnExactSameStore", spec := "fnExactSameStore", apart := false, narrowed := true }
def FnExactSameStoreUptoSaid : Prop := fnExactSameStoreUptoRow.holds Try.pinned (OpenSpec.upto fnExactSameStoreSpec)

/-- 'laws.FnExactValidDuties', WHERE WHAT IT READS IS OF BULK AT MOST 1048576: true; the input reads as it did. -/
def fnExactValidDutiesUptoRow : OpenClaim := { program := "ytapfmnafakdhmaa", sum := "54573ff9664f2b75e684c55cb2cc563f29b4b1499601c1da0a527c5a8c06fd78", func := "loop.example/g00953/laws.FnExactValidDuties", spec := "fnExactValidDuties", unfollowed := true, recurses := true, apart := false, narrowed := true }
def FnExactValidDutiesUptoSaid : Prop := fnExactValidDutiesUptoRow.holds Try.pinned (OpenSpec.upto fnExactValidDutiesSpec)

/-- 'laws.FnExactMeanRepair', WHERE WHAT IT READS IS OF BULK AT MOST 1048576: true; the input reads as it did. -/
def fnExactMeanRepairUptoRow : OpenClaim := { program := "ytapfmnafakdhmaa", sum := "54573ff9664f2b75e684c55cb2cc563f29b4b1499601c1da0a527c5a8c06fd78", func := "loop.example/g00953/laws.FnExactMeanRepair", spec := "fnExactMeanRepair", unfollowed := true, recurses := true, apart := false, narrowed := true }
def FnExactMeanRepairUptoSaid : Prop := fnExactMeanRepairUptoRow.holds Try.pinned (OpenSpec.upto fnExactMeanRepairSpec)

/-- 'laws.FnExactRepairFault', WHERE WHAT IT READS IS OF BULK AT MOST 1048576: true; the input reads as it did. -/
def fnExactRepairFaultUptoRow : OpenClaim := { program := "ytapfmnafakdhmaa", sum := "54573ff9664f2b75e684c55cb2cc563f29b4b1499601c1da0a527c5a8c06fd78", func := "loop.example/g00953/laws.FnExactRepairFault", spec := "fnExactRepairFault", unfollowed := true, recurses := true, apart := false, narrowed := true }
def FnExactRepairFaultUptoSaid : Prop := fnExactRepairFaultUptoRow.holds Try.pinned (OpenSpec.upto fnExactRepairFaultSpec)

/-- 'laws.FnExactOpenFaults', WHERE WHAT IT READS IS OF BULK AT MOST 1048576: true; the input reads as it did. -/
def fnExactOpenFaultsUptoRow : OpenClaim := { program := "ytapfmnafakdhmaa", sum := "54573ff9664f2b75e684c55cb2cc563f29b4b1499601c1da0a527c5a8c06fd78", func := "loop.example/g00953/laws.FnExactOpenFaults", spec := "fnExactOpenFaults", unfollowed := true, recurses := true, apart := false, narrowed := true }
def FnExactOpenFaultsUptoSaid : Prop := fnExactOpenFaultsUptoRow.holds Try.pinned (OpenSpec.upto fnExactOpenFaultsSpec)

/-- 'laws.FnExactDownTime', WHERE WHAT IT READS IS OF BULK AT MOST 1048576: true; the input reads as it did. -/
def fnExactDownTimeUptoRow : OpenClaim := { program := "ytapfmnafakdhmaa", sum := "54573ff9664f2b75e684c55cb2cc563f29b4b1499601c1da0a527c5a8c06fd78", func := "loop.example/g00953/laws.FnExactDownTime", spec := "fnExactDownTime", unfollowed := true, recurses := true, apart := false, narrowed := true }
def FnExactDownTimeUptoSaid : Prop := fnExactDownTimeUptoRow.holds Try.pinned (OpenSpec.upto fnExactDownTimeSpec)

/-- 'laws.FnExactAvailabilityOf', WHERE WHAT IT READS IS OF BULK AT MOST 1048576: true; the input reads as it did. -/
def fnExactAvailabilityOfUptoRow : OpenClaim := { program := "ytapfmnafakdhmaa", sum := "54573ff9664f2b75e684c55cb2cc563f29b4b1499601c1da0a527c5a8c06fd78", func := "loop.example/g00953/laws.FnExactAvailabilityOf", spec := "fnExactAvailabilityOf", unfollowed := true, recurses := true, apart := false, narrowed := true }
def FnExactAvailabilityOfUptoSaid : Prop := fnExactAvailabilityOfUptoRow.holds Try.pinned (OpenSpec.upto fnExactAvailabilityOfSpec)

/-- 'laws.FnExactLeastRest', WHERE WHAT IT READS IS OF BULK AT MOST 1048576: true; the input reads as it did. -/
def fnExactLeastRestUptoRow : OpenClaim := { program := "ytapfmnafakdhmaa", sum := "54573ff9664f2b75e684c55cb2cc563f29b4b1499601c1da0a527c5a8c06fd78", func := "loop.example/g00953/laws.FnExactLeastRest", spec := "fnExactLeastRest", unfollowed := true, recurses := true, apart := false, narrowed := true }
def FnExactLeastRestUptoSaid : Prop := fnExactLeastRestUptoRow.holds Try.pinned (OpenSpec.upto fnExactLeastRestSpec)

/-- 'laws.FnExactMeetsCategory', WHERE WHAT IT READS IS OF BULK AT MOST 1048576: true; the input reads as it did. -/
def fnExactMeetsCategoryUptoRow : OpenClaim := { program := "ytapfmnafakdhmaa", sum := "54573ff9664f2b75e684c55cb2cc563f29b4b1499601c1da0a527c5a8c06fd78", func := "loop.example/g00953/laws.FnExactMeetsCategory", spec := "fnExactMeetsCategory", unfollowed := true, recurses := true, apart := false, narrowed := true }
def FnExactMeetsCategoryUptoSaid : Prop := fnExactMeetsCategoryUptoRow.holds Try.pinned (OpenSpec.upto fnExactMeetsCategorySpec)

end Rows
end Go.Proofs.Ytapfmnafakdhmaa
