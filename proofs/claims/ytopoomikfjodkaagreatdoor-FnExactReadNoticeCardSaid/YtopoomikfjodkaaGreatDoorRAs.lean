/- A part of a proof: walks of functions and lemmas of our own. No conditions. -/
import Derived.Test.YtopoomikfjodkaaGreatDoorRAl
import Derived.Test.YtopoomikfjodkaaGreatDoorRAi
set_option linter.unusedSectionVars false
set_option linter.unusedVariables false
set_option linter.unusedSimpArgs false
set_option maxHeartbeats 1000000
namespace Go.Ab
open Go
theorem yyz (s : List UInt8) (i : Int) (h0 : 0 ≤ i) (h1 : i < (s.length : Int)) (hl : s.length ≤ 1048576)
  (hb:((((s.getD i.toNat 0).toNat:Int) == 40) && (((s.getD (IntKind.wrap .i64 ((s.length:Int)-1)).toNat 0).toNat:Int) == 41))=true) :
  0≤IntKind.wrap .i64 (i+1)∧IntKind.wrap .i64 (i+1)≤IntKind.wrap .i64 ((s.length:Int)-1)∧IntKind.wrap .i64 ((s.length:Int)-1)≤s.length:=by
 have w1:IntKind.wrap .i64 (i+1)=i+1:=by rw[IntKind.wrap_i64];omega
 have w2:IntKind.wrap .i64 ((s.length:Int)-1)=(s.length:Int)-1:=by rw[IntKind.wrap_i64];omega
 rw[w2]at hb
 rw[w1,w2]
 simp only[Bool.and_eq_true,beq_iff_eq]at hb
 have hne:i≠(s.length:Int)-1:=by
  intro h
  rw[← h,hb.1]at hb
  exact absurd hb.2 (by decide)
 omega
end Go.Ab
