/- A part of a proof: walks of functions and lemmas of our own. No conditions. -/
import Derived.Test.YtjngmicjnheliaaGreatDoorQAe
set_option linter.unusedSectionVars false
set_option linter.unusedVariables false
set_option linter.unusedSimpArgs false
namespace Go.Ab
open Go
variable [Inv]
def posC : AV -> AV
 | .ref id e off n=>.ref id e off n
 | .ptr id off=>.ptr id off
 | _=>.any
def posV : AV -> AV
 | .agg cs=>.agg (cs.map posC)
 | x=>posC x
def posL : List Bool -> List AV -> List AV
 | true::gb,x::xs=>posV x::posL gb xs
 | _::gb,_::xs=>.any::posL gb xs
 | [],_::xs=>.any::posL [] xs
 | _,[]=>[]
def absBC (h : List Ent) : AV -> Option (AV × List Ent × List Prop)
 | .ref id e off n=>absC h (.ref id e off n)
 | .ptr id off=>absC h (.ptr id off)
 | _=>some (.any,h,[])
def absBL (h : List Ent) : List AV -> Option (List AV × List Ent × List Prop)
  | []=>some ([],h,[])
  | x :: xs => match absBC h x with
    | some (y, h1, o1) => match absBL h1 xs with
      | some (ys,h2,o2)=>some (y::ys,h2,o1++o2)
      | none=>none
    | none=>none
def absBV (h : List Ent) : AV -> Option (AV × List Ent × List Prop)
  | .agg cs => match absBL h cs with
    | some (ys,h',ob)=>some (.agg ys,h',ob)
    | none=>none
  | x=>absBC h x
def absBVL (h : List Ent) : List AV -> Option (List AV × List Ent × List Prop)
  | []=>some ([],h,[])
  | x :: xs => match absBV h x with
    | some (y, h1, o1) => match absBVL h1 xs with
      | some (ys,h2,o2)=>some (y::ys,h2,o1++o2)
      | none=>none
    | none=>none
def EndsM (Γ:Env) (rs:List ResultVar) (bk:List AV) (r:AV) (outs:List AV) (s:St):Prop:=
  match resA Γ s rs with
  | some (xs, o1) => match absVL s.h xs with
    | some (ys, h', ob) => match absBVL h' bk with
      | some (zs,_,ob2)=>allP o1/\allP ob/\allP ob2/\(NoBorL ys/\NoBorL zs\/FlatOL ys/\FlatOL zs)/\simO (packA ys) r/\simOL zs outs
      | none=>False
    | none=>False
  | none=>False
section
variable {P:Program} {c:Ctx} {μ:Map} {FP:Nat->List Nat} {w:World} {h0:List Ent}
mutual
theorem y5s {w : World} {M : Nat -> Prop} {μ : Map} : ∀ (x x' : AV) {v : Value} {fp : List Nat}, simO x x' -> Rep w M x μ v fp -> tops x' v = tops x v
 | .sl o e n f,x',v,fp,hs,h=>by
  cases x' with
  | sl o' e' n' f'=>
   simp only[simO]at hs;obtain⟨rfl,rfl,rfl,hf⟩:=hs;cases o<;>cases v<;>first|rfl|(rename_i a _ _;cases a<;>rfl)
  | _=>simp[simO]at hs
 | .agg cs,x',v,fp,hs,h=>by
  cases x' with
  | agg cs'=>
   simp only[simO]at hs;simp only[Rep]at h;obtain⟨us,rfl,h⟩:=h;simp only[tops];exact ybe cs cs' hs h
  | _=>simp[simO]at hs
 | .op cs,x',v,fp,hs,h=>by
  cases x' with
  | op cs'=>
   simp only[Rep]at h;obtain⟨b,us,T,rfl,_⟩:=h;rfl
  | _=>simp[simO]at hs
 | .tup cs,x',v,fp,hs,h=>by
  cases x' with
  | tup cs'=>
   simp only[simO]at hs;simp only[Rep]at h;obtain⟨us,rfl,h⟩:=h;simp only[tops];exact ybe cs cs' hs h
  | _=>simp[simO]at hs
 | .int k n,x',v,fp,hs,h=>by
  cases x' with
  | int k' n'=>simp only[simO]at hs;obtain⟨rfl,rfl⟩:=hs;rfl
  | _=>simp[simO]at hs
 | .bool k,x',v,fp,hs,h=>by
  cases x' with
  | bool k'=>simp only[simO]at hs;subst hs;rfl
  | _=>simp[simO]at hs
 | .str k,x',v,fp,hs,h=>by
  cases x' with
  | str k'=>simp only[simO]at hs;subst hs;rfl
  | _=>simp[simO]at hs
 | .nils,x',v,fp,hs,h=>by
  simp only[Rep]at h;obtain⟨rfl,_⟩:=h
  cases x' with
  | nils=>rfl
  | sl o e n f=>cases o<;>rfl
  | _=>simp[simO]at hs
 | .ref ..,x',v,fp,hs,h=>by cases x'<;>simp[simO]at hs;obtain⟨rfl,rfl,rfl,rfl⟩:=hs;rfl
 | .ptr ..,x',v,fp,hs,h=>by cases x'<;>simp[simO]at hs;obtain⟨rfl,rfl⟩:=hs;rfl
 | .pe ..,x',v,fp,hs,h=>by cases x'<;>simp[simO]at hs;obtain⟨rfl,rfl,rfl,rfl⟩:=hs;rfl
 | .ep cs,x',v,fp,hs,h=>by cases x'<;>simp[simO]at hs;simp only[Rep]at h;obtain⟨_,b,o,us,rfl,_⟩:=h;rfl
 | .fn ..,x',v,fp,hs,h=>by cases x'<;>simp[simO]at hs;obtain⟨rfl,rfl,rfl⟩:=hs;rfl
 | .lit ..,x',v,fp,hs,h=>by cases x'<;>simp[simO]at hs;obtain⟨rfl,rfl⟩:=hs;rfl
 | .gd ..,x',v,fp,hs,h=>by cases x'<;>simp[simO]at hs;obtain⟨rfl,rfl⟩:=hs;rfl
 | .any,x',v,fp,hs,h=>by cases x'<;>simp[simO]at hs;rfl
theorem ybe {w : World} {M : Nat -> Prop} {μ : Map} : ∀ (xs xs' : List AV) {us : List Value} {fp : List Nat}, simOL xs xs' -> RepL w M xs μ us fp -> ycb xs' us = ycb xs us
 | [],xs',us,fp,hs,h=>by cases xs'<;>simp only[simOL]at hs;rfl
 | x::xs,xs',us,fp,hs,h=>by
  cases xs'<;>simp only[simOL]at hs
  simp only[RepL]at h;obtain⟨u,us',f1,f2,rfl,rfl,h1,h2⟩:=h;simp only[ycb,y5s x _ hs.1 h1,ybe xs _ hs.2 h2]
end
end
end Go.Ab
