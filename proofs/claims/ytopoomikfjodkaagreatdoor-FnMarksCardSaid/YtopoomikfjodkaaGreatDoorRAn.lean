/- A part of a proof: walks of functions and lemmas of our own. No conditions. -/
import Derived.Test.YtopoomikfjodkaaGreatDoorRAj
set_option linter.unusedSectionVars false
set_option linter.unusedVariables false
set_option linter.unusedSimpArgs false
namespace Go.Ab
open Go Go.Deep Go.ChangeShapes Go.WideShapes Go.ChangeAt Go.RowKit
abbrev U8:={ n:Int // 0≤n∧n≤255 }
instance:Inhabited U8:=⟨⟨0,by decide⟩⟩
theorem ymcb {P:Program} {t:TypeId} (ht:P.underlying t=some (.int .u8)):Rd P t (fun n:U8=>[.int .u8 n.1]):=by
 intro H enc W base sp hd fuel cs x h
 obtain⟨n,rfl,_,hw⟩:=DataW.trod_int ht h
 have hr:0≤n∧n≤255:=by
  simp[Lit.wf]at hw
  have q1:IntKind.u8.min=0:=by decide
  have q2:IntKind.u8.max=255:=by decide
  omega
 exact⟨⟨n,hr⟩,rep1 (by simp[Rep]),by simp[Value.oneCell']⟩
theorem yh3 (l:List U8):encL 1 (fun n:Int=>[.int .u8 n]) (l.map Subtype.val)=encL 1 (fun n:U8=>[.int .u8 n.1]) l:=by
 simp only[encL,List.length_map]
 congr 1
 funext i
 simp only[List.getD_eq_getElem?_getD,List.getElem?_map]
 cases l[i]? with
 | none=>rfl
 | some u=>rfl
theorem y2y (l:List U8):∀ v∈l.map Subtype.val,0≤v∧v≤255:=fun v hv=>by
 obtain⟨u,_,rfl⟩:=List.mem_map.1 hv
 exact u.2
end Go.Ab
