/-
  NARROWER THAN 'FOR EVERY INPUT', by the rows' own cells (each row's printed sentence says how): FnExactNoticesInForce: laid · FnExactDiffAids: laid · FnExactAddAid: laid · FnExactMergeAids: laid · FnCurrent: laid · FnExactAddNotice: laid · FnExactFirstFault: laid · FnExactPatchAids: laid · FnExactCurrentList: laid · FnExactNextEdition: laid.
  DERIVED. THE GIVEN ROWS OF THIS SEAT. 10 by the template 'for every input the law returns true; each argument reads behind the call as it read before'; 0 by the template 'total and deterministic' (their statements: YtaneiddiakjgdaaGreatDoorTotals.lean).
  GIVEN WITH THE SEED: the statements are not yours to turn. If you find one false, say at which input.
  Laid BY PROGRAM, IN A SANDBOX (cutbox-rows.mjs): the forced cells as the released guide's own fill.sh prints them over the translation 2db3c5fbc54eb671… (all of the seat's roots in one cut). By AI agents, Wed Nov 11 2026. No macro, syntax, notation, axiom, sorry.
-/
import Derived.Test.YtaneiddiakjgdaaGreatDoorChecked
import GoSem.Claim
import GoSem.ClaimJoined
import GoSem.ClaimMapViews
import Derived.JoinedTies
import Derived.KernelRfl
namespace Go.Proofs.YtaneiddiakjgdaaGreatDoor
/- THE CELL 'sum', in the pinned program and in every row, IS THE sha256 OF THE DUMP (.gsa) THAT YtaneiddiakjgdaaGreatDoorProg.lean LOADS. Nothing in Lean hashes anything: it is a label: what it is worth is what the hold of that sum in a sandbox is worth. -/
noncomputable def Tryz.pinned : Pinned := { name := "ytaneiddiakjgdaagreatdoor", sum := "2db3c5fbc54eb67198268ce6e06afb5e8812764264481e8fe0101dfc28c70d0f", checked := Tryz.checked }
namespace Rows
def none {H : Type} : Left H := { results := [], args := [] }

/- WHAT THE LISTED PACKAGE-LEVEL VARIABLES READ AS WHEN THE CALL BEGINS. Each datum BY PROGRAM (the guide's laid-datum.mjs) off the statement by which the dump's own 'gosem.cut.vars' lays the variable. In a bare row this is a premise. The card (YtaneiddiakjgdaaGreatDoorCards.lean) ties it to the program's text. -/
def laid_unicode_White_Space {H : Type} : DataW H := .ptr (.agg [.slice [.agg [.lit (.int .u16 9), .lit (.int .u16 13), .lit (.int .u16 1)], .agg [.lit (.int .u16 32), .lit (.int .u16 133), .lit (.int .u16 101)], .agg [.lit (.int .u16 160), .lit (.int .u16 5760), .lit (.int .u16 5600)], .agg [.lit (.int .u16 8192), .lit (.int .u16 8202), .lit (.int .u16 1)], .agg [.lit (.int .u16 8232), .lit (.int .u16 8233), .lit (.int .u16 1)], .agg [.lit (.int .u16 8239), .lit (.int .u16 8287), .lit (.int .u16 48)], .agg [.lit (.int .u16 12288), .lit (.int .u16 12288), .lit (.int .u16 1)]] [], .nil, .lit (.int .i64 2)])
def laid_strings_asciiSpace {H : Type} : DataW H := .agg [.lit (.int .u8 0), .lit (.int .u8 0), .lit (.int .u8 0), .lit (.int .u8 0), .lit (.int .u8 0), .lit (.int .u8 0), .lit (.int .u8 0), .lit (.int .u8 0), .lit (.int .u8 0), .lit (.int .u8 1), .lit (.int .u8 1), .lit (.int .u8 1), .lit (.int .u8 1), .lit (.int .u8 1), .lit (.int .u8 0), .lit (.int .u8 0), .lit (.int .u8 0), .lit (.int .u8 0), .lit (.int .u8 0), .lit (.int .u8 0), .lit (.int .u8 0), .lit (.int .u8 0), .lit (.int .u8 0), .lit (.int .u8 0), .lit (.int .u8 0), .lit (.int .u8 0), .lit (.int .u8 0), .lit (.int .u8 0), .lit (.int .u8 0), .lit (.int .u8 0), .lit (.int .u8 0), .lit (.int .u8 0), .lit (.int .u8 1), .lit (.int .u8 0), .lit (.int .u8 0), .lit (.int .u8 0), .lit (.int .u8 0), .lit (.int .u8 0), .lit (.int .u8 0), .lit (.int .u8 0), .lit (.int .u8 0), .lit (.int .u8 0), .lit (.int .u8 0), .lit (.int .u8 0), .lit (.int .u8 0), .lit (.int .u8 0), .lit (.int .u8 0), .lit (.int .u8 0), .lit (.int .u8 0), .lit (.int .u8 0), .lit (.int .u8 0), .lit (.int .u8 0), .lit (.int .u8 0), .lit (.int .u8 0), .lit (.int .u8 0), .lit (.int .u8 0), .lit (.int .u8 0), .lit (.int .u8 0), .lit (.int .u8 0), .lit (.int .u8 0), .lit (.int .u8 0), .lit (.int .u8 0), .lit (.int .u8 0), .lit (.int .u8 0), .lit (.int .u8 0), .lit (.int .u8 0), .lit (.int .u8 0), .lit (.int .u8 0), .lit (.int .u8 0), .lit (.int .u8 0), .lit (.int .u8 0), .lit (.int .u8 0), .lit (.int .u8 0), .lit (.int .u8 0), .lit (.int .u8 0), .lit (.int .u8 0), .lit (.int .u8 0), .lit (.int .u8 0), .lit (.int .u8 0), .lit (.int .u8 0), .lit (.int .u8 0), .lit (.int .u8 0), .lit (.int .u8 0), .lit (.int .u8 0), .lit (.int .u8 0), .lit (.int .u8 0), .lit (.int .u8 0), .lit (.int .u8 0), .lit (.int .u8 0), .lit (.int .u8 0), .lit (.int .u8 0), .lit (.int .u8 0), .lit (.int .u8 0), .lit (.int .u8 0), .lit (.int .u8 0), .lit (.int .u8 0), .lit (.int .u8 0), .lit (.int .u8 0), .lit (.int .u8 0), .lit (.int .u8 0), .lit (.int .u8 0), .lit (.int .u8 0), .lit (.int .u8 0), .lit (.int .u8 0), .lit (.int .u8 0), .lit (.int .u8 0), .lit (.int .u8 0), .lit (.int .u8 0), .lit (.int .u8 0), .lit (.int .u8 0), .lit (.int .u8 0), .lit (.int .u8 0), .lit (.int .u8 0), .lit (.int .u8 0), .lit (.int .u8 0), .lit (.int .u8 0), .lit (.int .u8 0), .lit (.int .u8 0), .lit (.int .u8 0), .lit (.int .u8 0), .lit (.int .u8 0), .lit (.int .u8 0), .lit (.int .u8 0), .lit (.int .u8 0), .lit (.int .u8 0), .lit (.int .u8 0), .lit (.int .u8 0), .lit (.int .u8 0), .lit (.int .u8 0), .lit (.int .u8 0), .lit (.int .u8 0), .lit (.int .u8 0), .lit (.int .u8 0), .lit (.int .u8 0), .lit (.int .u8 0), .lit (.int .u8 0), .lit (.int .u8 0), .lit (.int .u8 0), .lit (.int .u8 0), .lit (.int .u8 0), .lit (.int .u8 0), .lit (.int .u8 0), .lit (.int .u8 0), .lit (.int .u8 0), .lit (.int .u8 0), .lit (.int .u8 0), .lit (.int .u8 0), .lit (.int .u8 0), .lit (.int .u8 0), .lit (.int .u8 0), .lit (.int .u8 0), .lit (.int .u8 0), .lit (.int .u8 0), .lit (.int .u8 0), .lit (.int .u8 0), .lit (.int .u8 0), .lit (.int .u8 0), .lit (.int .u8 0), .lit (.int .u8 0), .lit (.int .u8 0), .lit (.int .u8 0), .lit (.int .u8 0), .lit (.int .u8 0), .lit (.int .u8 0), .lit (.int .u8 0), .lit (.int .u8 0), .lit (.int .u8 0), .lit (.int .u8 0), .lit (.int .u8 0), .lit (.int .u8 0), .lit (.int .u8 0), .lit (.int .u8 0), .lit (.int .u8 0), .lit (.int .u8 0), .lit (.int .u8 0), .lit (.int .u8 0), .lit (.int .u8 0), .lit (.int .u8 0), .lit (.int .u8 0), .lit (.int .u8 0), .lit (.int .u8 0), .lit (.int .u8 0), .lit (.int .u8 0), .lit (.int .u8 0), .lit (.int .u8 0), .lit (.int .u8 0), .lit (.int .u8 0), .lit (.int .u8 0), .lit (.int .u8 0), .lit (.int .u8 0), .lit (.int .u8 0), .lit (.int .u8 0), .lit (.int .u8 0), .lit (.int .u8 0), .lit (.int .u8 0), .lit (.int .u8 0), .lit (.int .u8 0), .lit (.int .u8 0), .lit (.int .u8 0), .lit (.int .u8 0), .lit (.int .u8 0), .lit (.int .u8 0), .lit (.int .u8 0), .lit (.int .u8 0), .lit (.int .u8 0), .lit (.int .u8 0), .lit (.int .u8 0), .lit (.int .u8 0), .lit (.int .u8 0), .lit (.int .u8 0), .lit (.int .u8 0), .lit (.int .u8 0), .lit (.int .u8 0), .lit (.int .u8 0), .lit (.int .u8 0), .lit (.int .u8 0), .lit (.int .u8 0), .lit (.int .u8 0), .lit (.int .u8 0), .lit (.int .u8 0), .lit (.int .u8 0), .lit (.int .u8 0), .lit (.int .u8 0), .lit (.int .u8 0), .lit (.int .u8 0), .lit (.int .u8 0), .lit (.int .u8 0), .lit (.int .u8 0), .lit (.int .u8 0), .lit (.int .u8 0), .lit (.int .u8 0), .lit (.int .u8 0), .lit (.int .u8 0), .lit (.int .u8 0), .lit (.int .u8 0), .lit (.int .u8 0), .lit (.int .u8 0), .lit (.int .u8 0), .lit (.int .u8 0), .lit (.int .u8 0), .lit (.int .u8 0), .lit (.int .u8 0), .lit (.int .u8 0), .lit (.int .u8 0), .lit (.int .u8 0), .lit (.int .u8 0), .lit (.int .u8 0), .lit (.int .u8 0), .lit (.int .u8 0), .lit (.int .u8 0), .lit (.int .u8 0), .lit (.int .u8 0), .lit (.int .u8 0), .lit (.int .u8 0), .lit (.int .u8 0), .lit (.int .u8 0)]

/-- 'laws.FnExactNoticesInForce': WHATEVER THE INPUT: true; the input reads as it did. -/
def fnExactNoticesInForceSpec : ChangeSpec := { name := "fnExactNoticesInForce", fn := fun _ => fun
  | [d1, d2] => { results := [.lit (.bool true)], args := [d1, d2] }
  | _ => none }
def fnExactNoticesInForceRow : OpenClaim := { program := "ytaneiddiakjgdaagreatdoor", sum := "2db3c5fbc54eb67198268ce6e06afb5e8812764264481e8fe0101dfc28c70d0f", func := "loop.example/g00953/laws.FnExactNoticesInForce", spec := "fnExactNoticesInForce", inPlace := ["internal/bytealg.IndexByteString", "internal/bytealg.IndexString"], unfollowed := true, recurses := true, named := ["strings.asciiSpace", "unicode.White_Space", "internal/bytealg.MaxLen"], apart := false, laid := [("unicode.White_Space", laid_unicode_White_Space), ("strings.asciiSpace", laid_strings_asciiSpace)] }
def FnExactNoticesInForceSaid : Prop := fnExactNoticesInForceRow.holds Tryz.pinned (OpenSpec.ofChange fnExactNoticesInForceSpec)

/-- ITS FALSE NEIGHBOUR: 'it returns false'. Refute it at one input. -/
def fnExactNoticesInForceWrong : ChangeSpec := { name := "fnExactNoticesInForce", fn := fun _ => fun
  | [d1, d2] => { results := [.lit (.bool false)], args := [d1, d2] }
  | _ => none }
def FnExactNoticesInForceWrongFalsely : Prop := fnExactNoticesInForceRow.holds Tryz.pinned (OpenSpec.ofChange fnExactNoticesInForceWrong)

/-- 'laws.FnExactDiffAids': WHATEVER THE INPUT: true; the input reads as it did. -/
def fnExactDiffAidsSpec : ChangeSpec := { name := "fnExactDiffAids", fn := fun _ => fun
  | [d1, d2] => { results := [.lit (.bool true)], args := [d1, d2] }
  | _ => none }
def fnExactDiffAidsRow : OpenClaim := { program := "ytaneiddiakjgdaagreatdoor", sum := "2db3c5fbc54eb67198268ce6e06afb5e8812764264481e8fe0101dfc28c70d0f", func := "loop.example/g00953/laws.FnExactDiffAids", spec := "fnExactDiffAids", inPlace := ["internal/bytealg.IndexByteString", "internal/bytealg.IndexString"], unfollowed := true, recurses := true, named := ["strings.asciiSpace", "unicode.White_Space", "internal/bytealg.MaxLen"], apart := false, laid := [("unicode.White_Space", laid_unicode_White_Space), ("strings.asciiSpace", laid_strings_asciiSpace)] }
def FnExactDiffAidsSaid : Prop := fnExactDiffAidsRow.holds Tryz.pinned (OpenSpec.ofChange fnExactDiffAidsSpec)

/-- ITS FALSE NEIGHBOUR: 'it returns false'. Refute it at one input. -/
def fnExactDiffAidsWrong : ChangeSpec := { name := "fnExactDiffAids", fn := fun _ => fun
  | [d1, d2] => { results := [.lit (.bool false)], args := [d1, d2] }
  | _ => none }
def FnExactDiffAidsWrongFalsely : Prop := fnExactDiffAidsRow.holds Tryz.pinned (OpenSpec.ofChange fnExactDiffAidsWrong)

/-- 'laws.FnExactAddAid': WHATEVER THE INPUT: true; the input reads as it did. -/
def fnExactAddAidSpec : ChangeSpec := { name := "fnExactAddAid", fn := fun _ => fun
  | [d1, d2] => { results := [.lit (.bool true)], args := [d1, d2] }
  | _ => none }
def fnExactAddAidRow : OpenClaim := { program := "ytaneiddiakjgdaagreatdoor", sum := "2db3c5fbc54eb67198268ce6e06afb5e8812764264481e8fe0101dfc28c70d0f", func := "loop.example/g00953/laws.FnExactAddAid", spec := "fnExactAddAid", inPlace := ["internal/bytealg.IndexByteString", "internal/bytealg.IndexString", "slices.overlaps[loop.example/g00953/impl.Aid]"], unfollowed := true, recurses := true, named := ["strings.asciiSpace", "unicode.White_Space", "internal/bytealg.MaxLen"], apart := false, laid := [("unicode.White_Space", laid_unicode_White_Space), ("strings.asciiSpace", laid_strings_asciiSpace)] }
def FnExactAddAidSaid : Prop := fnExactAddAidRow.holds Tryz.pinned (OpenSpec.ofChange fnExactAddAidSpec)

/-- ITS FALSE NEIGHBOUR: 'it returns false'. Refute it at one input. -/
def fnExactAddAidWrong : ChangeSpec := { name := "fnExactAddAid", fn := fun _ => fun
  | [d1, d2] => { results := [.lit (.bool false)], args := [d1, d2] }
  | _ => none }
def FnExactAddAidWrongFalsely : Prop := fnExactAddAidRow.holds Tryz.pinned (OpenSpec.ofChange fnExactAddAidWrong)

/-- 'laws.FnExactMergeAids': WHATEVER THE INPUT: true; the input reads as it did. -/
def fnExactMergeAidsSpec : ChangeSpec := { name := "fnExactMergeAids", fn := fun _ => fun
  | [d1, d2, d3] => { results := [.lit (.bool true)], args := [d1, d2, d3] }
  | _ => none }
def fnExactMergeAidsRow : OpenClaim := { program := "ytaneiddiakjgdaagreatdoor", sum := "2db3c5fbc54eb67198268ce6e06afb5e8812764264481e8fe0101dfc28c70d0f", func := "loop.example/g00953/laws.FnExactMergeAids", spec := "fnExactMergeAids", inPlace := ["internal/bytealg.IndexByteString", "internal/bytealg.IndexString"], unfollowed := true, recurses := true, named := ["strings.asciiSpace", "unicode.White_Space", "internal/bytealg.MaxLen"], apart := false, laid := [("unicode.White_Space", laid_unicode_White_Space), ("strings.asciiSpace", laid_strings_asciiSpace)] }
def FnExactMergeAidsSaid : Prop := fnExactMergeAidsRow.holds Tryz.pinned (OpenSpec.ofChange fnExactMergeAidsSpec)

/-- ITS FALSE NEIGHBOUR: 'it returns false'. Refute it at one input. -/
def fnExactMergeAidsWrong : ChangeSpec := { name := "fnExactMergeAids", fn := fun _ => fun
  | [d1, d2, d3] => { results := [.lit (.bool false)], args := [d1, d2, d3] }
  | _ => none }
def FnExactMergeAidsWrongFalsely : Prop := fnExactMergeAidsRow.holds Tryz.pinned (OpenSpec.ofChange fnExactMergeAidsWrong)

/-- 'laws.FnCurrent': WHATEVER THE INPUT: true; the input reads as it did. -/
def fnCurrentSpec : ChangeSpec := { name := "fnCurrent", fn := fun _ => fun
  | [d1, d2] => { results := [.lit (.bool true)], args := [d1, d2] }
  | _ => none }
def fnCurrentRow : OpenClaim := { program := "ytaneiddiakjgdaagreatdoor", sum := "2db3c5fbc54eb67198268ce6e06afb5e8812764264481e8fe0101dfc28c70d0f", func := "loop.example/g00953/laws.FnCurrent", spec := "fnCurrent", inPlace := ["internal/bytealg.IndexByteString", "internal/bytealg.IndexString", "slices.overlaps[loop.example/g00953/impl.Aid]"], unfollowed := true, recurses := true, named := ["strings.asciiSpace", "unicode.White_Space", "internal/bytealg.MaxLen"], apart := false, laid := [("unicode.White_Space", laid_unicode_White_Space), ("strings.asciiSpace", laid_strings_asciiSpace)] }
def FnCurrentSaid : Prop := fnCurrentRow.holds Tryz.pinned (OpenSpec.ofChange fnCurrentSpec)

/-- ITS FALSE NEIGHBOUR: 'it returns false'. Refute it at one input. -/
def fnCurrentWrong : ChangeSpec := { name := "fnCurrent", fn := fun _ => fun
  | [d1, d2] => { results := [.lit (.bool false)], args := [d1, d2] }
  | _ => none }
def FnCurrentWrongFalsely : Prop := fnCurrentRow.holds Tryz.pinned (OpenSpec.ofChange fnCurrentWrong)

/-- 'laws.FnExactAddNotice': WHATEVER THE INPUT: true; the input reads as it did. -/
def fnExactAddNoticeSpec : ChangeSpec := { name := "fnExactAddNotice", fn := fun _ => fun
  | [d1, d2] => { results := [.lit (.bool true)], args := [d1, d2] }
  | _ => none }
def fnExactAddNoticeRow : OpenClaim := { program := "ytaneiddiakjgdaagreatdoor", sum := "2db3c5fbc54eb67198268ce6e06afb5e8812764264481e8fe0101dfc28c70d0f", func := "loop.example/g00953/laws.FnExactAddNotice", spec := "fnExactAddNotice", inPlace := ["internal/bytealg.IndexByteString", "internal/bytealg.IndexString"], unfollowed := true, recurses := true, named := ["strings.asciiSpace", "unicode.White_Space", "internal/bytealg.MaxLen"], apart := false, laid := [("unicode.White_Space", laid_unicode_White_Space), ("strings.asciiSpace", laid_strings_asciiSpace)] }
def FnExactAddNoticeSaid : Prop := fnExactAddNoticeRow.holds Tryz.pinned (OpenSpec.ofChange fnExactAddNoticeSpec)

/-- ITS FALSE NEIGHBOUR: 'it returns false'. Refute it at one input. -/
def fnExactAddNoticeWrong : ChangeSpec := { name := "fnExactAddNotice", fn := fun _ => fun
  | [d1, d2] => { results := [.lit (.bool false)], args := [d1, d2] }
  | _ => none }
def FnExactAddNoticeWrongFalsely : Prop := fnExactAddNoticeRow.holds Tryz.pinned (OpenSpec.ofChange fnExactAddNoticeWrong)

/-- 'laws.FnExactFirstFault': WHATEVER THE INPUT: true; the input reads as it did. -/
def fnExactFirstFaultSpec : ChangeSpec := { name := "fnExactFirstFault", fn := fun _ => fun
  | [d1, d2, d3] => { results := [.lit (.bool true)], args := [d1, d2, d3] }
  | _ => none }
def fnExactFirstFaultRow : OpenClaim := { program := "ytaneiddiakjgdaagreatdoor", sum := "2db3c5fbc54eb67198268ce6e06afb5e8812764264481e8fe0101dfc28c70d0f", func := "loop.example/g00953/laws.FnExactFirstFault", spec := "fnExactFirstFault", inPlace := ["internal/bytealg.IndexByteString", "internal/bytealg.IndexString", "slices.overlaps[loop.example/g00953/impl.Aid]"], unfollowed := true, recurses := true, named := ["strings.asciiSpace", "unicode.White_Space", "internal/bytealg.MaxLen"], apart := false, laid := [("unicode.White_Space", laid_unicode_White_Space), ("strings.asciiSpace", laid_strings_asciiSpace)] }
def FnExactFirstFaultSaid : Prop := fnExactFirstFaultRow.holds Tryz.pinned (OpenSpec.ofChange fnExactFirstFaultSpec)

/-- ITS FALSE NEIGHBOUR: 'it returns false'. Refute it at one input. -/
def fnExactFirstFaultWrong : ChangeSpec := { name := "fnExactFirstFault", fn := fun _ => fun
  | [d1, d2, d3] => { results := [.lit (.bool false)], args := [d1, d2, d3] }
  | _ => none }
def FnExactFirstFaultWrongFalsely : Prop := fnExactFirstFaultRow.holds Tryz.pinned (OpenSpec.ofChange fnExactFirstFaultWrong)

/-- 'laws.FnExactPatchAids': WHATEVER THE INPUT: true; the input reads as it did. -/
def fnExactPatchAidsSpec : ChangeSpec := { name := "fnExactPatchAids", fn := fun _ => fun
  | [d1, d2] => { results := [.lit (.bool true)], args := [d1, d2] }
  | _ => none }
def fnExactPatchAidsRow : OpenClaim := { program := "ytaneiddiakjgdaagreatdoor", sum := "2db3c5fbc54eb67198268ce6e06afb5e8812764264481e8fe0101dfc28c70d0f", func := "loop.example/g00953/laws.FnExactPatchAids", spec := "fnExactPatchAids", inPlace := ["internal/bytealg.IndexByteString", "internal/bytealg.IndexString", "slices.overlaps[loop.example/g00953/impl.Aid]"], unfollowed := true, recurses := true, named := ["strings.asciiSpace", "unicode.White_Space", "internal/bytealg.MaxLen"], apart := false, laid := [("unicode.White_Space", laid_unicode_White_Space), ("strings.asciiSpace", laid_strings_asciiSpace)] }
def FnExactPatchAidsSaid : Prop := fnExactPatchAidsRow.holds Tryz.pinned (OpenSpec.ofChange fnExactPatchAidsSpec)

/-- ITS FALSE NEIGHBOUR: 'it returns false'. Refute it at one input. -/
def fnExactPatchAidsWrong : ChangeSpec := { name := "fnExactPatchAids", fn := fun _ => fun
  | [d1, d2] => { results := [.lit (.bool false)], args := [d1, d2] }
  | _ => none }
def FnExactPatchAidsWrongFalsely : Prop := fnExactPatchAidsRow.holds Tryz.pinned (OpenSpec.ofChange fnExactPatchAidsWrong)

/-- 'laws.FnExactCurrentList': WHATEVER THE INPUT: true; the input reads as it did. -/
def fnExactCurrentListSpec : ChangeSpec := { name := "fnExactCurrentList", fn := fun _ => fun
  | [d1, d2, d3] => { results := [.lit (.bool true)], args := [d1, d2, d3] }
  | _ => none }
def fnExactCurrentListRow : OpenClaim := { program := "ytaneiddiakjgdaagreatdoor", sum := "2db3c5fbc54eb67198268ce6e06afb5e8812764264481e8fe0101dfc28c70d0f", func := "loop.example/g00953/laws.FnExactCurrentList", spec := "fnExactCurrentList", inPlace := ["internal/bytealg.IndexByteString", "internal/bytealg.IndexString", "slices.overlaps[loop.example/g00953/impl.Aid]"], unfollowed := true, recurses := true, named := ["strings.asciiSpace", "unicode.White_Space", "internal/bytealg.MaxLen"], apart := false, laid := [("unicode.White_Space", laid_unicode_White_Space), ("strings.asciiSpace", laid_strings_asciiSpace)] }
def FnExactCurrentListSaid : Prop := fnExactCurrentListRow.holds Tryz.pinned (OpenSpec.ofChange fnExactCurrentListSpec)

/-- ITS FALSE NEIGHBOUR: 'it returns false'. Refute it at one input. -/
def fnExactCurrentListWrong : ChangeSpec := { name := "fnExactCurrentList", fn := fun _ => fun
  | [d1, d2, d3] => { results := [.lit (.bool false)], args := [d1, d2, d3] }
  | _ => none }
def FnExactCurrentListWrongFalsely : Prop := fnExactCurrentListRow.holds Tryz.pinned (OpenSpec.ofChange fnExactCurrentListWrong)

/-- 'laws.FnExactNextEdition': WHATEVER THE INPUT: true; the input reads as it did. -/
def fnExactNextEditionSpec : ChangeSpec := { name := "fnExactNextEdition", fn := fun _ => fun
  | [d1, d2, d3] => { results := [.lit (.bool true)], args := [d1, d2, d3] }
  | _ => none }
def fnExactNextEditionRow : OpenClaim := { program := "ytaneiddiakjgdaagreatdoor", sum := "2db3c5fbc54eb67198268ce6e06afb5e8812764264481e8fe0101dfc28c70d0f", func := "loop.example/g00953/laws.FnExactNextEdition", spec := "fnExactNextEdition", inPlace := ["internal/bytealg.IndexByteString", "internal/bytealg.IndexString", "slices.overlaps[loop.example/g00953/impl.Aid]"], unfollowed := true, recurses := true, named := ["strings.asciiSpace", "unicode.White_Space", "internal/bytealg.MaxLen"], apart := false, laid := [("unicode.White_Space", laid_unicode_White_Space), ("strings.asciiSpace", laid_strings_asciiSpace)] }
def FnExactNextEditionSaid : Prop := fnExactNextEditionRow.holds Tryz.pinned (OpenSpec.ofChange fnExactNextEditionSpec)

/-- ITS FALSE NEIGHBOUR: 'it returns false'. Refute it at one input. -/
def fnExactNextEditionWrong : ChangeSpec := { name := "fnExactNextEdition", fn := fun _ => fun
  | [d1, d2, d3] => { results := [.lit (.bool false)], args := [d1, d2, d3] }
  | _ => none }
def FnExactNextEditionWrongFalsely : Prop := fnExactNextEditionRow.holds Tryz.pinned (OpenSpec.ofChange fnExactNextEditionWrong)

/- THE SECOND FORM. 'bulk': how many values and letters a reading holds, each counted each time it is reached (what is shared counts as often as it is met; a slice's spare places count too). A statement '..UptoSaid' is the law's where the arguments, and the package variables that the reading takes, are together of bulk at most 1048576: NARROWER than '..Said'. Prove '..Said' where nothing that the law and all that it calls make is longer than what came in: it says more and counts as full. Else prove '..UptoSaid'. A law counts once. -/
mutual
def uptoBulk {H : Type} : DataW H → Nat
  | .lit (.string bytes) => bytes.length + 1
  | .lit _ => 1
  | .nil => 1
  | .ptr d => uptoBulk d + 1
  | .slice elems spare => uptoBulkAll elems + uptoBulkAll spare + 1
  | .agg parts => uptoBulkAll parts + 1
  | .iface _ d => uptoBulk d + 1
  | .map entries => uptoBulkEntries entries + 1
  | .held _ => 1
def uptoBulkAll {H : Type} : List (DataW H) → Nat
  | [] => 0
  | d :: r => uptoBulk d + uptoBulkAll r
def uptoBulkEntries {H : Type} : List (Lit × DataW H) → Nat
  | [] => 0
  | x :: r => uptoBulkEntry x + uptoBulkEntries r
def uptoBulkEntry {H : Type} : Lit × DataW H → Nat
  | (.string bytes, d) => bytes.length + uptoBulk d + 1
  | (_, d) => uptoBulk d + 1
 end
def uptoSmall : (H : Type) → List (DataW H) → Bool := fun _ ds => decide (uptoBulkAll ds ≤ 1048576)
def OpenSpec.upto (s : _root_.Go.ChangeSpec) : _root_.Go.OpenSpec := { _root_.Go.OpenSpec.ofChange s with cond := some uptoSmall }

/-- 'laws.FnExactNoticesInForce', WHERE WHAT IT READS IS OF BULK AT MOST 1048576: true; the input reads as it did. -/
def fnExactNoticesInForceUptoRow : OpenClaim := { program := "ytaneiddiakjgdaagreatdoor", sum := "2db3c5fbc54eb67198268ce6e06afb5e8812764264481e8fe0101dfc28c70d0f", func := "loop.example/g00953/laws.FnExactNoticesInForce", spec := "fnExactNoticesInForce", inPlace := ["internal/bytealg.IndexByteString", "internal/bytealg.IndexString"], unfollowed := true, recurses := true, named := ["strings.asciiSpace", "unicode.White_Space", "internal/bytealg.MaxLen"], apart := false, laid := [("unicode.White_Space", laid_unicode_White_Space), ("strings.asciiSpace", laid_strings_asciiSpace)], narrowed := true }
def FnExactNoticesInForceUptoSaid : Prop := fnExactNoticesInForceUptoRow.holds Tryz.pinned (OpenSpec.upto fnExactNoticesInForceSpec)

/-- 'laws.FnExactDiffAids', WHERE WHAT IT READS IS OF BULK AT MOST 1048576: true; the input reads as it did. -/
def fnExactDiffAidsUptoRow : OpenClaim := { program := "ytaneiddiakjgdaagreatdoor", sum := "2db3c5fbc54eb67198268ce6e06afb5e8812764264481e8fe0101dfc28c70d0f", func := "loop.example/g00953/laws.FnExactDiffAids", spec := "fnExactDiffAids", inPlace := ["internal/bytealg.IndexByteString", "internal/bytealg.IndexString"], unfollowed := true, recurses := true, named := ["strings.asciiSpace", "unicode.White_Space", "internal/bytealg.MaxLen"], apart := false, laid := [("unicode.White_Space", laid_unicode_White_Space), ("strings.asciiSpace", laid_strings_asciiSpace)], narrowed := true }
def FnExactDiffAidsUptoSaid : Prop := fnExactDiffAidsUptoRow.holds Tryz.pinned (OpenSpec.upto fnExactDiffAidsSpec)

/-- 'laws.FnExactAddAid', WHERE WHAT IT READS IS OF BULK AT MOST 1048576: true; the input reads as it did. -/
def fnExactAddAidUptoRow : OpenClaim := { program := "ytaneiddiakjgdaagreatdoor", sum := "2db3c5fbc54eb67198268ce6e06afb5e8812764264481e8fe0101dfc28c70d0f", func := "loop.example/g00953/laws.FnExactAddAid", spec := "fnExactAddAid", inPlace := ["internal/bytealg.IndexByteString", "internal/bytealg.IndexString", "slices.overlaps[loop.example/g00953/impl.Aid]"], unfollowed := true, recurses := true, named := ["strings.asciiSpace", "unicode.White_Space", "internal/bytealg.MaxLen"], apart := false, laid := [("unicode.White_Space", laid_unicode_White_Space), ("strings.asciiSpace", laid_strings_asciiSpace)], narrowed := true }
def FnExactAddAidUptoSaid : Prop := fnExactAddAidUptoRow.holds Tryz.pinned (OpenSpec.upto fnExactAddAidSpec)

/-- 'laws.FnExactMergeAids', WHERE WHAT IT READS IS OF BULK AT MOST 1048576: true; the input reads as it did. -/
def fnExactMergeAidsUptoRow : OpenClaim := { program := "ytaneiddiakjgdaagreatdoor", sum := "2db3c5fbc54eb67198268ce6e06afb5e8812764264481e8fe0101dfc28c70d0f", func := "loop.example/g00953/laws.FnExactMergeAids", spec := "fnExactMergeAids", inPlace := ["internal/bytealg.IndexByteString", "internal/bytealg.IndexString"], unfollowed := true, recurses := true, named := ["strings.asciiSpace", "unicode.White_Space", "internal/bytealg.MaxLen"], apart := false, laid := [("unicode.White_Space", laid_unicode_White_Space), ("strings.asciiSpace", laid_strings_asciiSpace)], narrowed := true }
def FnExactMergeAidsUptoSaid : Prop := fnExactMergeAidsUptoRow.holds Tryz.pinned (OpenSpec.upto fnExactMergeAidsSpec)

/-- 'laws.FnCurrent', WHERE WHAT IT READS IS OF BULK AT MOST 1048576: true; the input reads as it did. -/
def fnCurrentUptoRow : OpenClaim := { program := "ytaneiddiakjgdaagreatdoor", sum := "2db3c5fbc54eb67198268ce6e06afb5e8812764264481e8fe0101dfc28c70d0f", func := "loop.example/g00953/laws.FnCurrent", spec := "fnCurrent", inPlace := ["internal/bytealg.IndexByteString", "internal/bytealg.IndexString", "slices.overlaps[loop.example/g00953/impl.Aid]"], unfollowed := true, recurses := true, named := ["strings.asciiSpace", "unicode.White_Space", "internal/bytealg.MaxLen"], apart := false, laid := [("unicode.White_Space", laid_unicode_White_Space), ("strings.asciiSpace", laid_strings_asciiSpace)], narrowed := true }
def FnCurrentUptoSaid : Prop := fnCurrentUptoRow.holds Tryz.pinned (OpenSpec.upto fnCurrentSpec)

/-- 'laws.FnExactAddNotice', WHERE WHAT IT READS IS OF BULK AT MOST 1048576: true; the input reads as it did. -/
def fnExactAddNoticeUptoRow : OpenClaim := { program := "ytaneiddiakjgdaagreatdoor", sum := "2db3c5fbc54eb67198268ce6e06afb5e8812764264481e8fe0101dfc28c70d0f", func := "loop.example/g00953/laws.FnExactAddNotice", spec := "fnExactAddNotice", inPlace := ["internal/bytealg.IndexByteString", "internal/bytealg.IndexString"], unfollowed := true, recurses := true, named := ["strings.asciiSpace", "unicode.White_Space", "internal/bytealg.MaxLen"], apart := false, laid := [("unicode.White_Space", laid_unicode_White_Space), ("strings.asciiSpace", laid_strings_asciiSpace)], narrowed := true }
def FnExactAddNoticeUptoSaid : Prop := fnExactAddNoticeUptoRow.holds Tryz.pinned (OpenSpec.upto fnExactAddNoticeSpec)

/-- 'laws.FnExactFirstFault', WHERE WHAT IT READS IS OF BULK AT MOST 1048576: true; the input reads as it did. -/
def fnExactFirstFaultUptoRow : OpenClaim := { program := "ytaneiddiakjgdaagreatdoor", sum := "2db3c5fbc54eb67198268ce6e06afb5e8812764264481e8fe0101dfc28c70d0f", func := "loop.example/g00953/laws.FnExactFirstFault", spec := "fnExactFirstFault", inPlace := ["internal/bytealg.IndexByteString", "internal/bytealg.IndexString", "slices.overlaps[loop.example/g00953/impl.Aid]"], unfollowed := true, recurses := true, named := ["strings.asciiSpace", "unicode.White_Space", "internal/bytealg.MaxLen"], apart := false, laid := [("unicode.White_Space", laid_unicode_White_Space), ("strings.asciiSpace", laid_strings_asciiSpace)], narrowed := true }
def FnExactFirstFaultUptoSaid : Prop := fnExactFirstFaultUptoRow.holds Tryz.pinned (OpenSpec.upto fnExactFirstFaultSpec)

/-- 'laws.FnExactPatchAids', WHERE WHAT IT READS IS OF BULK AT MOST 1048576: true; the input reads as it did. -/
def fnExactPatchAidsUptoRow : OpenClaim := { program := "ytaneiddiakjgdaagreatdoor", sum := "2db3c5fbc54eb67198268ce6e06afb5e8812764264481e8fe0101dfc28c70d0f", func := "loop.example/g00953/laws.FnExactPatchAids", spec := "fnExactPatchAids", inPlace := ["internal/bytealg.IndexByteString", "internal/bytealg.IndexString", "slices.overlaps[loop.example/g00953/impl.Aid]"], unfollowed := true, recurses := true, named := ["strings.asciiSpace", "unicode.White_Space", "internal/bytealg.MaxLen"], apart := false, laid := [("unicode.White_Space", laid_unicode_White_Space), ("strings.asciiSpace", laid_strings_asciiSpace)], narrowed := true }
def FnExactPatchAidsUptoSaid : Prop := fnExactPatchAidsUptoRow.holds Tryz.pinned (OpenSpec.upto fnExactPatchAidsSpec)

/-- 'laws.FnExactCurrentList', WHERE WHAT IT READS IS OF BULK AT MOST 1048576: true; the input reads as it did. -/
def fnExactCurrentListUptoRow : OpenClaim := { program := "ytaneiddiakjgdaagreatdoor", sum := "2db3c5fbc54eb67198268ce6e06afb5e8812764264481e8fe0101dfc28c70d0f", func := "loop.example/g00953/laws.FnExactCurrentList", spec := "fnExactCurrentList", inPlace := ["internal/bytealg.IndexByteString", "internal/bytealg.IndexString", "slices.overlaps[loop.example/g00953/impl.Aid]"], unfollowed := true, recurses := true, named := ["strings.asciiSpace", "unicode.White_Space", "internal/bytealg.MaxLen"], apart := false, laid := [("unicode.White_Space", laid_unicode_White_Space), ("strings.asciiSpace", laid_strings_asciiSpace)], narrowed := true }
def FnExactCurrentListUptoSaid : Prop := fnExactCurrentListUptoRow.holds Tryz.pinned (OpenSpec.upto fnExactCurrentListSpec)

/-- 'laws.FnExactNextEdition', WHERE WHAT IT READS IS OF BULK AT MOST 1048576: true; the input reads as it did. -/
def fnExactNextEditionUptoRow : OpenClaim := { program := "ytaneiddiakjgdaagreatdoor", sum := "2db3c5fbc54eb67198268ce6e06afb5e8812764264481e8fe0101dfc28c70d0f", func := "loop.example/g00953/laws.FnExactNextEdition", spec := "fnExactNextEdition", inPlace := ["internal/bytealg.IndexByteString", "internal/bytealg.IndexString", "slices.overlaps[loop.example/g00953/impl.Aid]"], unfollowed := true, recurses := true, named := ["strings.asciiSpace", "unicode.White_Space", "internal/bytealg.MaxLen"], apart := false, laid := [("unicode.White_Space", laid_unicode_White_Space), ("strings.asciiSpace", laid_strings_asciiSpace)], narrowed := true }
def FnExactNextEditionUptoSaid : Prop := fnExactNextEditionUptoRow.holds Tryz.pinned (OpenSpec.upto fnExactNextEditionSpec)

end Rows
end Go.Proofs.YtaneiddiakjgdaaGreatDoor
