/- A part of a proof: walks of functions and lemmas of our own. No conditions. -/
import Derived.Test.YtijmcongeemehaaGreatDoorEAg
import Derived.Deep.Slices
import Derived.Deep.Strs
import Derived.ChangeArms
import Derived.DataElems
set_option linter.unusedSectionVars false
set_option linter.unusedVariables false
set_option linter.unusedSimpArgs false
namespace Go.Ab
open Go Go.Deep Go.ChangeShapes Go.WideShapes Go.ChangeAt Go.RowKit
def Rd (P:Program) {α:Type} (t:TypeId) (e:α->List AV):Prop:=
 ∀ {H:Type} {enc:TypeId×Value->H} {W:World} {base:Nat} {sp:Nat->Bool} {hd:Bool} {fuel:Nat} {cs:List Value} {x:DataW H×List MemPlace},DataW.trod enc P W base sp hd fuel t cs=some x ->
  ∃ v:α,RepL W (fun _=>False) (e v) yn cs []/\(∀ u∈cs,u.oneCell'=true)
theorem rep1 {W:World} {M:Nat->Prop} {μ:Map} {x:AV} {v:Value} (h:Rep W M x μ v []):RepL W M [x] μ [v] []:=by
 simp only[RepL];exact⟨v,[],[],[],rfl,rfl,h,rfl,rfl⟩
theorem yd8 {P:Program} {t:TypeId} (ht:P.underlying t=some .string):Rd P t (fun s:List UInt8=>[.str s]):=by
 intro H enc W base sp hd fuel cs x h;obtain⟨s,rfl,_,hs⟩:=DataW.trod_string ht h;have z:s.data.toList.length=s.size:=Array.length_toList;exact⟨s.data.toList,rep1 (by simp only[Rep];exact⟨⟨trivial,by omega⟩,trivial⟩),by simp[Value.oneCell']⟩
theorem y5x {P : Program} {α : Type} {t : TypeId} {e : α -> AV} (hr : Rd P t (fun v => [e v])) {H : Type} {enc : TypeId × Value -> H} {W : World} {v : Value} {d : DataW H} {ps : List MemPlace} (hv : ∀ us, v ≠ .agg us)
  (h:DataW.Trod enc P W 0 (fun _=>true) true t v d ps):∃ a:α,Rep W (fun _=>False) (e a) yn v []:=by
 obtain⟨fuel,h⟩:=h
 have hc:v.cells.toList=[v]:=by
  cases v<;>first|rfl|exact absurd rfl (hv _)
 rw[hc]at h;obtain⟨a,h1,_⟩:=hr h;simp only[RepL]at h1;obtain⟨u,us',f1,f2,e1,e2,hu,_,_⟩:=h1;simp only[List.cons.injEq]at e1;obtain⟨rfl,_⟩:=e1;obtain⟨rfl,_⟩:=List.append_eq_nil_iff.1 e2.symm;exact⟨a,hu⟩
end Go.Ab
