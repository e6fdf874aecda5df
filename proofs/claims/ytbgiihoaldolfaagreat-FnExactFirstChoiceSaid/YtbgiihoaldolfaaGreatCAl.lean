/- A part of a proof: walks of functions and lemmas of our own. No conditions. -/
import Derived.Test.YtbgiihoaldolfaaGreatCAk
import Derived.Test.YtbgiihoaldolfaaGreatCAh
import Derived.KernelRfl
import Derived.Lib.LaidTab
import Derived.Lib.ItoaNum
import Derived.Shelf.Strings.Prefix
import Derived.Test.YtbgiihoaldolfaaGreatProg
set_option linter.unusedSectionVars false
set_option linter.unusedVariables false
set_option linter.unusedSimpArgs false
set_option maxHeartbeats 1000000
namespace Go.Ab
open Go Go.Proofs
instance inv0:Inv:=⟨fun _=>True,fun _=>False,fun _ _ _ h=>h.elim,fun _ _ _ _ _=>trivial⟩
def wGO {α : Type} (e : α -> List AV) (d : List AV -> α) : AV -> Prop
 | .agg cs=>simOL cs (e (d cs))
 | _=>False
theorem ykv {α:Type} [Inhabited α] {e:α->List AV} {d:List AV->α} {a:AV} (h:wGO e d a):simO a (.agg (e (rdG d a))):=by
 cases a<;>simp_all[wGO,rdG,simO]
def rdQ {α : Type} [Inhabited α] (d : List AV -> α) : AV -> α
 | .op cs=>d cs
 | _=>default
def wQ {α : Type} (e : α -> List AV) (d : List AV -> α) : AV -> Prop
 | .op cs=>cs=e (d cs)\/simOL cs (e (d cs))
 | _=>False
theorem ypz {α:Type} [Inhabited α] {e:α->List AV} {d:List AV->α} {a:AV} (h:wQ e d a):simO a (.op (e (rdQ d a))):=by
 cases a with
 | op cs=>
  simp only[wQ]at h;simp only[rdQ,simO];rcases h with h|h
  ·rw[<- h];exact yp _
  ·exact h
 | _=>simp[wQ]at h
def G:Env:=[(2,⟨.int .i64,1,8,[.int .i64 0],true⟩),
 (3,⟨.int .i64,1,8,[.int .i64 0],true⟩),
 (4,⟨.bool,1,1,[.bool false],true⟩),
 (5,⟨.int .u8,1,1,[.int .u8 0],true⟩),
 (9,⟨.string,1,16,[.str []],true⟩),
 (21,⟨.int .i32,1,4,[.int .i32 0],true⟩),
 (22,⟨.slice 26,1,24,[.nils],true⟩),
 (23,⟨.slice 42,1,24,[.nils],true⟩),
 (26,⟨.slice 2,1,24,[.nils],true⟩),
 (30,⟨.slice 51,1,24,[.nils],true⟩),
 (42,⟨.struct [(0,2),(1,26),(2,9),(3,9),(4,2)] true,5,72,[.int .i64 0,.nils,.str [],.str [],.int .i64 0],true⟩),
 (46,⟨.slice 68,1,24,[.nils],true⟩),
 (48,⟨.struct [(0,22),(1,46),(2,26),(3,26),(4,2),(5,2),(6,2),(7,4)] true,8,128,[.nils,.nils,.nils,.nils,.int .i64 0,.int .i64 0,.int .i64 0,.bool false],true⟩),
 (51,⟨.struct [(0,2),(1,26),(2,9),(3,9),(4,2)] true,5,72,[.int .i64 0,.nils,.str [],.str [],.int .i64 0],true⟩),
 (55,⟨.array 12 4,12,12,[.bool false,.bool false,.bool false,.bool false,.bool false,.bool false,.bool false,.bool false,.bool false,.bool false,.bool false,.bool false],true⟩),
 (56,⟨.array 12 55,144,144,[.bool false,.bool false,.bool false,.bool false,.bool false,.bool false,.bool false,.bool false,.bool false,.bool false,.bool false,.bool false,.bool false,.bool false,.bool false,.bool false,.bool false,.bool false,.bool false,.bool false,.bool false,.bool false,.bool false,.bool false,.bool false,.bool false,.bool false,.bool false,.bool false,.bool false,.bool false,.bool false,.bool false,.bool false,.bool false,.bool false,.bool false,.bool false,.bool false,.bool false,.bool false,.bool false,.bool false,.bool false,.bool false,.bool false,.bool false,.bool false,.bool false,.bool false,.bool false,.bool false,.bool false,.bool false,.bool false,.bool false,.bool false,.bool false,.bool false,.bool false,.bool false,.bool false,.bool false,.bool false,.bool false,.bool false,.bool false,.bool false,.bool false,.bool false,.bool false,.bool false,.bool false,.bool false,.bool false,.bool false,.bool false,.bool false,.bool false,.bool false,.bool false,.bool false,.bool false,.bool false,.bool false,.bool false,.bool false,.bool false,.bool false,.bool false,.bool false,.bool false,.bool false,.bool false,.bool false,.bool false,.bool false,.bool false,.bool false,.bool false,.bool false,.bool false,.bool false,.bool false,.bool false,.bool false,.bool false,.bool false,.bool false,.bool false,.bool false,.bool false,.bool false,.bool false,.bool false,.bool false,.bool false,.bool false,.bool false,.bool false,.bool false,.bool false,.bool false,.bool false,.bool false,.bool false,.bool false,.bool false,.bool false,.bool false,.bool false,.bool false,.bool false,.bool false,.bool false,.bool false,.bool false,.bool false,.bool false,.bool false,.bool false,.bool false,.bool false,.bool false],true⟩),
 (58,⟨.struct [(0,3),(1,2),(2,22),(3,56),(147,2),(148,3),(149,26)] true,150,224,[.int .i64 0,.int .i64 0,.nils,.bool false,.bool false,.bool false,.bool false,.bool false,.bool false,.bool false,.bool false,.bool false,.bool false,.bool false,.bool false,.bool false,.bool false,.bool false,.bool false,.bool false,.bool false,.bool false,.bool false,.bool false,.bool false,.bool false,.bool false,.bool false,.bool false,.bool false,.bool false,.bool false,.bool false,.bool false,.bool false,.bool false,.bool false,.bool false,.bool false,.bool false,.bool false,.bool false,.bool false,.bool false,.bool false,.bool false,.bool false,.bool false,.bool false,.bool false,.bool false,.bool false,.bool false,.bool false,.bool false,.bool false,.bool false,.bool false,.bool false,.bool false,.bool false,.bool false,.bool false,.bool false,.bool false,.bool false,.bool false,.bool false,.bool false,.bool false,.bool false,.bool false,.bool false,.bool false,.bool false,.bool false,.bool false,.bool false,.bool false,.bool false,.bool false,.bool false,.bool false,.bool false,.bool false,.bool false,.bool false,.bool false,.bool false,.bool false,.bool false,.bool false,.bool false,.bool false,.bool false,.bool false,.bool false,.bool false,.bool false,.bool false,.bool false,.bool false,.bool false,.bool false,.bool false,.bool false,.bool false,.bool false,.bool false,.bool false,.bool false,.bool false,.bool false,.bool false,.bool false,.bool false,.bool false,.bool false,.bool false,.bool false,.bool false,.bool false,.bool false,.bool false,.bool false,.bool false,.bool false,.bool false,.bool false,.bool false,.bool false,.bool false,.bool false,.bool false,.bool false,.bool false,.bool false,.bool false,.bool false,.bool false,.bool false,.bool false,.bool false,.bool false,.bool false,.bool false,.bool false,.int .i64 0,.int .i64 0,.nils],true⟩),
 (68,⟨.slice 4,1,24,[.nils],true⟩),
 (72,⟨.slice 5,1,24,[.nils],true⟩),
 (88,⟨.slice 112,1,24,[.nils],true⟩),
 (112,⟨.struct [(0,9),(1,2)] true,2,24,[.str [],.int .i64 0],true⟩),
 (121,⟨.slice 9,1,24,[.nils],true⟩),
 (138,⟨.array 26 9,26,416,[.str [],.str [],.str [],.str [],.str [],.str [],.str [],.str [],.str [],.str [],.str [],.str [],.str [],.str [],.str [],.str [],.str [],.str [],.str [],.str [],.str [],.str [],.str [],.str [],.str [],.str []],true⟩),
 (141,⟨.slice 88,1,24,[.nils],true⟩),
 (153,⟨.slice 121,1,24,[.nils],true⟩)]
theorem G_ok:TyOk Tryz.prog G:=by unfold TyOk;kernel_rfl
theorem gv:tget G 2=some ⟨.int .i64,1,8,[.int .i64 0],true⟩ /\
 tget G 3=some ⟨.int .i64,1,8,[.int .i64 0],true⟩ /\
 tget G 4=some ⟨.bool,1,1,[.bool false],true⟩ /\
 tget G 5=some ⟨.int .u8,1,1,[.int .u8 0],true⟩ /\
 tget G 9=some ⟨.string,1,16,[.str []],true⟩ /\
 tget G 21=some ⟨.int .i32,1,4,[.int .i32 0],true⟩ /\
 tget G 22=some ⟨.slice 26,1,24,[.nils],true⟩ /\
 tget G 23=some ⟨.slice 42,1,24,[.nils],true⟩ /\
 tget G 26=some ⟨.slice 2,1,24,[.nils],true⟩ /\
 tget G 30=some ⟨.slice 51,1,24,[.nils],true⟩ /\
 tget G 42=some ⟨.struct [(0,2),(1,26),(2,9),(3,9),(4,2)] true,5,72,[.int .i64 0,.nils,.str [],.str [],.int .i64 0],true⟩ /\
 tget G 46=some ⟨.slice 68,1,24,[.nils],true⟩ /\
 tget G 48=some ⟨.struct [(0,22),(1,46),(2,26),(3,26),(4,2),(5,2),(6,2),(7,4)] true,8,128,[.nils,.nils,.nils,.nils,.int .i64 0,.int .i64 0,.int .i64 0,.bool false],true⟩ /\
 tget G 51=some ⟨.struct [(0,2),(1,26),(2,9),(3,9),(4,2)] true,5,72,[.int .i64 0,.nils,.str [],.str [],.int .i64 0],true⟩ /\
 tget G 55=some ⟨.array 12 4,12,12,[.bool false,.bool false,.bool false,.bool false,.bool false,.bool false,.bool false,.bool false,.bool false,.bool false,.bool false,.bool false],true⟩ /\
 tget G 56=some ⟨.array 12 55,144,144,[.bool false,.bool false,.bool false,.bool false,.bool false,.bool false,.bool false,.bool false,.bool false,.bool false,.bool false,.bool false,.bool false,.bool false,.bool false,.bool false,.bool false,.bool false,.bool false,.bool false,.bool false,.bool false,.bool false,.bool false,.bool false,.bool false,.bool false,.bool false,.bool false,.bool false,.bool false,.bool false,.bool false,.bool false,.bool false,.bool false,.bool false,.bool false,.bool false,.bool false,.bool false,.bool false,.bool false,.bool false,.bool false,.bool false,.bool false,.bool false,.bool false,.bool false,.bool false,.bool false,.bool false,.bool false,.bool false,.bool false,.bool false,.bool false,.bool false,.bool false,.bool false,.bool false,.bool false,.bool false,.bool false,.bool false,.bool false,.bool false,.bool false,.bool false,.bool false,.bool false,.bool false,.bool false,.bool false,.bool false,.bool false,.bool false,.bool false,.bool false,.bool false,.bool false,.bool false,.bool false,.bool false,.bool false,.bool false,.bool false,.bool false,.bool false,.bool false,.bool false,.bool false,.bool false,.bool false,.bool false,.bool false,.bool false,.bool false,.bool false,.bool false,.bool false,.bool false,.bool false,.bool false,.bool false,.bool false,.bool false,.bool false,.bool false,.bool false,.bool false,.bool false,.bool false,.bool false,.bool false,.bool false,.bool false,.bool false,.bool false,.bool false,.bool false,.bool false,.bool false,.bool false,.bool false,.bool false,.bool false,.bool false,.bool false,.bool false,.bool false,.bool false,.bool false,.bool false,.bool false,.bool false,.bool false,.bool false,.bool false,.bool false,.bool false,.bool false,.bool false],true⟩ /\
 tget G 58=some ⟨.struct [(0,3),(1,2),(2,22),(3,56),(147,2),(148,3),(149,26)] true,150,224,[.int .i64 0,.int .i64 0,.nils,.bool false,.bool false,.bool false,.bool false,.bool false,.bool false,.bool false,.bool false,.bool false,.bool false,.bool false,.bool false,.bool false,.bool false,.bool false,.bool false,.bool false,.bool false,.bool false,.bool false,.bool false,.bool false,.bool false,.bool false,.bool false,.bool false,.bool false,.bool false,.bool false,.bool false,.bool false,.bool false,.bool false,.bool false,.bool false,.bool false,.bool false,.bool false,.bool false,.bool false,.bool false,.bool false,.bool false,.bool false,.bool false,.bool false,.bool false,.bool false,.bool false,.bool false,.bool false,.bool false,.bool false,.bool false,.bool false,.bool false,.bool false,.bool false,.bool false,.bool false,.bool false,.bool false,.bool false,.bool false,.bool false,.bool false,.bool false,.bool false,.bool false,.bool false,.bool false,.bool false,.bool false,.bool false,.bool false,.bool false,.bool false,.bool false,.bool false,.bool false,.bool false,.bool false,.bool false,.bool false,.bool false,.bool false,.bool false,.bool false,.bool false,.bool false,.bool false,.bool false,.bool false,.bool false,.bool false,.bool false,.bool false,.bool false,.bool false,.bool false,.bool false,.bool false,.bool false,.bool false,.bool false,.bool false,.bool false,.bool false,.bool false,.bool false,.bool false,.bool false,.bool false,.bool false,.bool false,.bool false,.bool false,.bool false,.bool false,.bool false,.bool false,.bool false,.bool false,.bool false,.bool false,.bool false,.bool false,.bool false,.bool false,.bool false,.bool false,.bool false,.bool false,.bool false,.bool false,.bool false,.bool false,.bool false,.bool false,.bool false,.bool false,.bool false,.bool false,.bool false,.int .i64 0,.int .i64 0,.nils],true⟩ /\
 tget G 68=some ⟨.slice 4,1,24,[.nils],true⟩ /\
 tget G 72=some ⟨.slice 5,1,24,[.nils],true⟩ /\
 tget G 88=some ⟨.slice 112,1,24,[.nils],true⟩ /\
 tget G 112=some ⟨.struct [(0,9),(1,2)] true,2,24,[.str [],.int .i64 0],true⟩ /\
 tget G 121=some ⟨.slice 9,1,24,[.nils],true⟩ /\
 tget G 138=some ⟨.array 26 9,26,416,[.str [],.str [],.str [],.str [],.str [],.str [],.str [],.str [],.str [],.str [],.str [],.str [],.str [],.str [],.str [],.str [],.str [],.str [],.str [],.str [],.str [],.str [],.str [],.str [],.str [],.str []],true⟩ /\
 tget G 141=some ⟨.slice 88,1,24,[.nils],true⟩ /\
 tget G 153=some ⟨.slice 121,1,24,[.nils],true⟩:=by
 and_intros<;>rfl
theorem mixed:Tryz.prog.follows .mixedOrders=true:=by kernel_rfl
def eB (v:Bool):List AV:=[.bool v]
def dB : List AV -> Bool
 | [c]=>rdB c
 | _=>default
def yi (v:Int):List AV:=[.int .i64 v]
def ydb : List AV -> Int
 | [c]=>rdI c
 | _=>default
def eIu8 (v:Int):List AV:=[.int .u8 v]
def dIu8 : List AV -> Int
 | [c]=>rdI c
 | _=>default
def eS (v:(List UInt8)):List AV:=[.str v]
def dS : List AV -> (List UInt8)
 | [c]=>rdS c
 | _=>default
structure Character where
 Kind:Int
 Group:(List Int)
 Letter:(List UInt8)
 Colors:(List UInt8)
 Period:Int
 deriving Inhabited,DecidableEq
def eCharacter (v:Character):List AV:=[.int .i64 v.Kind,encL 1 yi v.Group,.str v.Letter,.str v.Colors,.int .i64 v.Period]
def yib (v:Character):List AV:=[.int .i64 v.Kind,ownL 2 1 yi v.Group,.str v.Letter,.str v.Colors,.int .i64 v.Period]
def ya : List AV -> Character
 | c0::c1::c2::c3::c4::_=>⟨rdI c0,rdL ydb c1,rdS c2,rdS c3,rdI c4⟩
 | _=>default
theorem ytg (v:Character):Character.mk v.Kind v.Group v.Letter v.Colors v.Period=v:=rfl
structure Phase where
 Color:(List UInt8)
 Length:Int
 deriving Inhabited,DecidableEq
def yn (v:Phase):List AV:=[.str v.Color,.int .i64 v.Length]
def y6 : List AV -> Phase
 | c0::c1::_=>⟨rdS c0,rdI c1⟩
 | _=>default
theorem yio (v:Phase):Phase.mk v.Color v.Length=v:=rfl
theorem yje (l:List Bool):decL dB l.length (fun i=>[.bool (l.getD i default)])=l:=y8 l
theorem ywz (l:List Bool) (lo n:Nat):decL dB n (fun i=>[.bool (l.getD (lo+i) default)])=subL l lo n:=rfl
theorem ygz (l:List Bool) (n:Nat):decL dB n (fun i=>[.bool (l.getD i default)])=subL l 0 n:=by simp only[subL,Nat.zero_add];rfl
theorem ywb (l:List Int):decL ydb l.length (fun i=>[.int .i64 (l.getD i default)])=l:=y8 l
theorem yrn (l:List Int) (lo n:Nat):decL ydb n (fun i=>[.int .i64 (l.getD (lo+i) default)])=subL l lo n:=rfl
theorem yvn (l:List Int) (n:Nat):decL ydb n (fun i=>[.int .i64 (l.getD i default)])=subL l 0 n:=by simp only[subL,Nat.zero_add];rfl
theorem y5b (l:List Int):decL dIu8 l.length (fun i=>[.int .u8 (l.getD i default)])=l:=y8 l
theorem y5r (l:List Int) (lo n:Nat):decL dIu8 n (fun i=>[.int .u8 (l.getD (lo+i) default)])=subL l lo n:=rfl
theorem yrs (l:List Int) (n:Nat):decL dIu8 n (fun i=>[.int .u8 (l.getD i default)])=subL l 0 n:=by simp only[subL,Nat.zero_add];rfl
def eLB (v:(List Bool)):List AV:=[encL 1 eB v]
def dLB : List AV -> (List Bool)
 | [c]=>rdL dB c
 | _=>default
def eLBO (v:(List Bool)):List AV:=[ownL 4 1 eB v]
def yt (v:(List Int)):List AV:=[encL 1 yi v]
def yv : List AV -> (List Int)
 | [c]=>rdL ydb c
 | _=>default
def yw (v:(List Int)):List AV:=[ownL 2 1 yi v]
def y7f (v:(List Phase)):List AV:=[encL 2 yn v]
def y3b : List AV -> (List Phase)
 | [c]=>rdL y6 c
 | _=>default
def yur (v:(List Phase)):List AV:=[ownL 112 2 yn v]
def eLS (v:(List (List UInt8))):List AV:=[encL 1 eS v]
def dLS : List AV -> (List (List UInt8))
 | [c]=>rdL dS c
 | _=>default
def eLSO (v:(List (List UInt8))):List AV:=[ownL 9 1 eS v]
theorem ylb (l:List Phase):decL y6 l.length (fun i=>[.str ((l.getD i default).Color),.int .i64 ((l.getD i default).Length)])=l:=y8 l
theorem ybl (l:List Phase) (lo n:Nat):decL y6 n (fun i=>[.str ((l.getD (lo+i) default).Color),.int .i64 ((l.getD (lo+i) default).Length)])=subL l lo n:=rfl
theorem yql (l:List Phase) (n:Nat):decL y6 n (fun i=>[.str ((l.getD i default).Color),.int .i64 ((l.getD i default).Length)])=subL l 0 n:=by simp only[subL,Nat.zero_add];rfl
theorem yie (l:List (List UInt8)):decL dS l.length (fun i=>[.str (l.getD i default)])=l:=y8 l
theorem ycz (l:List (List UInt8)) (lo n:Nat):decL dS n (fun i=>[.str (l.getD (lo+i) default)])=subL l lo n:=rfl
theorem ylz (l:List (List UInt8)) (n:Nat):decL dS n (fun i=>[.str (l.getD i default)])=subL l 0 n:=by simp only[subL,Nat.zero_add];rfl
theorem y3d (v:Character):ya [.int .i64 v.Kind,.sl none 1 v.Group.length (fun j=>[.int .i64 (v.Group.getD j default)]),.str v.Letter,.str v.Colors,.int .i64 v.Period]=v:=by simp only[ya,rdI,rdB,rdS,rdL,yje,ywb,y5b,ylb,yie]
theorem y9 (l:List Character):decL ya l.length (fun i=>[.int .i64 ((l.getD i default).Kind),.sl none 1 ((l.getD i default).Group).length (fun j=>[.int .i64 (((l.getD i default).Group).getD j default)]),.str ((l.getD i default).Letter),.str ((l.getD i default).Colors),.int .i64 ((l.getD i default).Period)])=l:=(List.map_congr_left fun i _=>y3d (l.getD i default)).trans (y8 l)
theorem yyf (l:List Character) (lo n:Nat):decL ya n (fun i=>[.int .i64 ((l.getD (lo+i) default).Kind),.sl none 1 ((l.getD (lo+i) default).Group).length (fun j=>[.int .i64 (((l.getD (lo+i) default).Group).getD j default)]),.str ((l.getD (lo+i) default).Letter),.str ((l.getD (lo+i) default).Colors),.int .i64 ((l.getD (lo+i) default).Period)])=subL l lo n:=List.map_congr_left fun i _=>y3d (l.getD (lo+i) default)
theorem ywf (l:List Character) (n:Nat):decL ya n (fun i=>[.int .i64 ((l.getD i default).Kind),.sl none 1 ((l.getD i default).Group).length (fun j=>[.int .i64 (((l.getD i default).Group).getD j default)]),.str ((l.getD i default).Letter),.str ((l.getD i default).Colors),.int .i64 ((l.getD i default).Period)])=subL l 0 n:=by simp only[subL,Nat.zero_add];exact List.map_congr_left fun i _=>y3d (l.getD i default)
theorem yfd (v:Character):ya [.int .i64 v.Kind,.sl (some 2) 1 v.Group.length (fun j=>[.int .i64 (v.Group.getD j default)]),.str v.Letter,.str v.Colors,.int .i64 v.Period]=v:=by simp only[ya,rdI,rdB,rdS,rdL,yje,ywb,y5b,ylb,yie,y9]
theorem yab (l:List Character):decL ya l.length (fun i=>[.int .i64 ((l.getD i default).Kind),.sl (some 2) 1 ((l.getD i default).Group).length (fun j=>[.int .i64 (((l.getD i default).Group).getD j default)]),.str ((l.getD i default).Letter),.str ((l.getD i default).Colors),.int .i64 ((l.getD i default).Period)])=l:=(List.map_congr_left fun i _=>yfd (l.getD i default)).trans (y8 l)
theorem y6e (l:List Character) (lo n:Nat):decL ya n (fun i=>[.int .i64 ((l.getD (lo+i) default).Kind),.sl (some 2) 1 ((l.getD (lo+i) default).Group).length (fun j=>[.int .i64 (((l.getD (lo+i) default).Group).getD j default)]),.str ((l.getD (lo+i) default).Letter),.str ((l.getD (lo+i) default).Colors),.int .i64 ((l.getD (lo+i) default).Period)])=subL l lo n:=List.map_congr_left fun i _=>yfd (l.getD (lo+i) default)
theorem y5e (l:List Character) (n:Nat):decL ya n (fun i=>[.int .i64 ((l.getD i default).Kind),.sl (some 2) 1 ((l.getD i default).Group).length (fun j=>[.int .i64 (((l.getD i default).Group).getD j default)]),.str ((l.getD i default).Letter),.str ((l.getD i default).Colors),.int .i64 ((l.getD i default).Period)])=subL l 0 n:=by simp only[subL,Nat.zero_add];exact List.map_congr_left fun i _=>yfd (l.getD i default)
theorem ypv (v:(List Bool)):dLB [.sl none 1 v.length (fun j=>[.bool (v.getD j default)])]=v:=by simp only[dLB,rdI,rdB,rdS,rdL,yje,ywb,y5b,ylb,yie,y9,yab]
theorem yee (l:List (List Bool)):decL dLB l.length (fun i=>[.sl none 1 (l.getD i default).length (fun j=>[.bool ((l.getD i default).getD j default)])])=l:=(List.map_congr_left fun i _=>ypv (l.getD i default)).trans (y8 l)
theorem yaw (l:List (List Bool)) (lo n:Nat):decL dLB n (fun i=>[.sl none 1 (l.getD (lo+i) default).length (fun j=>[.bool ((l.getD (lo+i) default).getD j default)])])=subL l lo n:=List.map_congr_left fun i _=>ypv (l.getD (lo+i) default)
theorem y1u (l:List (List Bool)) (n:Nat):decL dLB n (fun i=>[.sl none 1 (l.getD i default).length (fun j=>[.bool ((l.getD i default).getD j default)])])=subL l 0 n:=by simp only[subL,Nat.zero_add];exact List.map_congr_left fun i _=>ypv (l.getD i default)
theorem yaq (v:(List Bool)):dLB [.sl (some 4) 1 v.length (fun j=>[.bool (v.getD j default)])]=v:=by simp only[dLB,rdI,rdB,rdS,rdL,yje,ywb,y5b,ylb,yie,y9,yab,yee]
theorem ycd (l:List (List Bool)):decL dLB l.length (fun i=>[.sl (some 4) 1 (l.getD i default).length (fun j=>[.bool ((l.getD i default).getD j default)])])=l:=(List.map_congr_left fun i _=>yaq (l.getD i default)).trans (y8 l)
theorem y4r (l:List (List Bool)) (lo n:Nat):decL dLB n (fun i=>[.sl (some 4) 1 (l.getD (lo+i) default).length (fun j=>[.bool ((l.getD (lo+i) default).getD j default)])])=subL l lo n:=List.map_congr_left fun i _=>yaq (l.getD (lo+i) default)
theorem y6q (l:List (List Bool)) (n:Nat):decL dLB n (fun i=>[.sl (some 4) 1 (l.getD i default).length (fun j=>[.bool ((l.getD i default).getD j default)])])=subL l 0 n:=by simp only[subL,Nat.zero_add];exact List.map_congr_left fun i _=>yaq (l.getD i default)
theorem ygk (v:(List Int)):yv [.sl none 1 v.length (fun j=>[.int .i64 (v.getD j default)])]=v:=by simp only[yv,rdI,rdB,rdS,rdL,yje,ywb,y5b,ylb,yie,y9,yab,yee,ycd]
theorem ylc (l:List (List Int)):decL yv l.length (fun i=>[.sl none 1 (l.getD i default).length (fun j=>[.int .i64 ((l.getD i default).getD j default)])])=l:=(List.map_congr_left fun i _=>ygk (l.getD i default)).trans (y8 l)
theorem yml (l:List (List Int)) (lo n:Nat):decL yv n (fun i=>[.sl none 1 (l.getD (lo+i) default).length (fun j=>[.int .i64 ((l.getD (lo+i) default).getD j default)])])=subL l lo n:=List.map_congr_left fun i _=>ygk (l.getD (lo+i) default)
theorem y2k (l:List (List Int)) (n:Nat):decL yv n (fun i=>[.sl none 1 (l.getD i default).length (fun j=>[.int .i64 ((l.getD i default).getD j default)])])=subL l 0 n:=by simp only[subL,Nat.zero_add];exact List.map_congr_left fun i _=>ygk (l.getD i default)
theorem y0h (v:(List Int)):yv [.sl (some 2) 1 v.length (fun j=>[.int .i64 (v.getD j default)])]=v:=by simp only[yv,rdI,rdB,rdS,rdL,yje,ywb,y5b,ylb,yie,y9,yab,yee,ycd,ylc]
theorem yjc (l:List (List Int)):decL yv l.length (fun i=>[.sl (some 2) 1 (l.getD i default).length (fun j=>[.int .i64 ((l.getD i default).getD j default)])])=l:=(List.map_congr_left fun i _=>y0h (l.getD i default)).trans (y8 l)
theorem yqk (l:List (List Int)) (lo n:Nat):decL yv n (fun i=>[.sl (some 2) 1 (l.getD (lo+i) default).length (fun j=>[.int .i64 ((l.getD (lo+i) default).getD j default)])])=subL l lo n:=List.map_congr_left fun i _=>y0h (l.getD (lo+i) default)
theorem yuj (l:List (List Int)) (n:Nat):decL yv n (fun i=>[.sl (some 2) 1 (l.getD i default).length (fun j=>[.int .i64 ((l.getD i default).getD j default)])])=subL l 0 n:=by simp only[subL,Nat.zero_add];exact List.map_congr_left fun i _=>y0h (l.getD i default)
theorem y2h (v:(List Phase)):y3b [.sl none 2 v.length (fun j=>[.str ((v.getD j default).Color),.int .i64 ((v.getD j default).Length)])]=v:=by simp only[y3b,rdI,rdB,rdS,rdL,yje,ywb,y5b,ylb,yie,y9,yab,yee,ycd,ylc,yjc]
theorem ywc (l:List (List Phase)):decL y3b l.length (fun i=>[.sl none 2 (l.getD i default).length (fun j=>[.str (((l.getD i default).getD j default).Color),.int .i64 (((l.getD i default).getD j default).Length)])])=l:=(List.map_congr_left fun i _=>y2h (l.getD i default)).trans (y8 l)
theorem yrj (l:List (List Phase)) (lo n:Nat):decL y3b n (fun i=>[.sl none 2 (l.getD (lo+i) default).length (fun j=>[.str (((l.getD (lo+i) default).getD j default).Color),.int .i64 (((l.getD (lo+i) default).getD j default).Length)])])=subL l lo n:=List.map_congr_left fun i _=>y2h (l.getD (lo+i) default)
theorem yak (l:List (List Phase)) (n:Nat):decL y3b n (fun i=>[.sl none 2 (l.getD i default).length (fun j=>[.str (((l.getD i default).getD j default).Color),.int .i64 (((l.getD i default).getD j default).Length)])])=subL l 0 n:=by simp only[subL,Nat.zero_add];exact List.map_congr_left fun i _=>y2h (l.getD i default)
theorem ycg (v:(List Phase)):y3b [.sl (some 112) 2 v.length (fun j=>[.str ((v.getD j default).Color),.int .i64 ((v.getD j default).Length)])]=v:=by simp only[y3b,rdI,rdB,rdS,rdL,yje,ywb,y5b,ylb,yie,y9,yab,yee,ycd,ylc,yjc,ywc]
theorem ydd (l:List (List Phase)):decL y3b l.length (fun i=>[.sl (some 112) 2 (l.getD i default).length (fun j=>[.str (((l.getD i default).getD j default).Color),.int .i64 (((l.getD i default).getD j default).Length)])])=l:=(List.map_congr_left fun i _=>ycg (l.getD i default)).trans (y8 l)
theorem yfi (l:List (List Phase)) (lo n:Nat):decL y3b n (fun i=>[.sl (some 112) 2 (l.getD (lo+i) default).length (fun j=>[.str (((l.getD (lo+i) default).getD j default).Color),.int .i64 (((l.getD (lo+i) default).getD j default).Length)])])=subL l lo n:=List.map_congr_left fun i _=>ycg (l.getD (lo+i) default)
theorem ymi (l:List (List Phase)) (n:Nat):decL y3b n (fun i=>[.sl (some 112) 2 (l.getD i default).length (fun j=>[.str (((l.getD i default).getD j default).Color),.int .i64 (((l.getD i default).getD j default).Length)])])=subL l 0 n:=by simp only[subL,Nat.zero_add];exact List.map_congr_left fun i _=>ycg (l.getD i default)
theorem yvu (v:(List (List UInt8))):dLS [.sl none 1 v.length (fun j=>[.str (v.getD j default)])]=v:=by simp only[dLS,rdI,rdB,rdS,rdL,yje,ywb,y5b,ylb,yie,y9,yab,yee,ycd,ylc,yjc,ywc,ydd]
theorem yoq (l:List (List (List UInt8))):decL dLS l.length (fun i=>[.sl none 1 (l.getD i default).length (fun j=>[.str ((l.getD i default).getD j default)])])=l:=(List.map_congr_left fun i _=>yvu (l.getD i default)).trans (y8 l)
theorem yfu (l:List (List (List UInt8))) (lo n:Nat):decL dLS n (fun i=>[.sl none 1 (l.getD (lo+i) default).length (fun j=>[.str ((l.getD (lo+i) default).getD j default)])])=subL l lo n:=List.map_congr_left fun i _=>yvu (l.getD (lo+i) default)
theorem ycu (l:List (List (List UInt8))) (n:Nat):decL dLS n (fun i=>[.sl none 1 (l.getD i default).length (fun j=>[.str ((l.getD i default).getD j default)])])=subL l 0 n:=by simp only[subL,Nat.zero_add];exact List.map_congr_left fun i _=>yvu (l.getD i default)
theorem ynq (v:(List (List UInt8))):dLS [.sl (some 9) 1 v.length (fun j=>[.str (v.getD j default)])]=v:=by simp only[dLS,rdI,rdB,rdS,rdL,yje,ywb,y5b,ylb,yie,y9,yab,yee,ycd,ylc,yjc,ywc,ydd,yoq]
theorem yas (l:List (List (List UInt8))):decL dLS l.length (fun i=>[.sl (some 9) 1 (l.getD i default).length (fun j=>[.str ((l.getD i default).getD j default)])])=l:=(List.map_congr_left fun i _=>ynq (l.getD i default)).trans (y8 l)
theorem y1q (l:List (List (List UInt8))) (lo n:Nat):decL dLS n (fun i=>[.sl (some 9) 1 (l.getD (lo+i) default).length (fun j=>[.str ((l.getD (lo+i) default).getD j default)])])=subL l lo n:=List.map_congr_left fun i _=>ynq (l.getD (lo+i) default)
theorem ymr (l:List (List (List UInt8))) (n:Nat):decL dLS n (fun i=>[.sl (some 9) 1 (l.getD i default).length (fun j=>[.str ((l.getD i default).getD j default)])])=subL l 0 n:=by simp only[subL,Nat.zero_add];exact List.map_congr_left fun i _=>ynq (l.getD i default)
def bdS (v:List UInt8):Prop:=v.length<1099511627776
instance:DecidablePred bdS:=fun v=>inferInstanceAs (Decidable (v.length<1099511627776))
def bdLIi64 (v:(List Int)):Prop:=v.length<1099511627776
instance:DecidablePred bdLIi64:=fun v=>by unfold bdLIi64;infer_instance
def bdCharacter (v:Character):Prop:=bdLIi64 v.Group/\bdS v.Letter/\bdS v.Colors
instance:DecidablePred bdCharacter:=fun v=>by unfold bdCharacter;infer_instance
def bdPhase (v:Phase):Prop:=bdS v.Color
instance:DecidablePred bdPhase:=fun v=>by unfold bdPhase;infer_instance
def bdLPhase (v:(List Phase)):Prop:=v.length<1099511627776/\∀ x∈v,bdPhase x
instance:DecidablePred bdLPhase:=fun v=>by unfold bdLPhase;infer_instance
def bdLS (v:(List (List UInt8))):Prop:=v.length<1099511627776/\∀ x∈v,bdS x
instance:DecidablePred bdLS:=fun v=>by unfold bdLS;infer_instance
def bdLB (v:(List Bool)):Prop:=v.length<1099511627776
instance:DecidablePred bdLB:=fun v=>by unfold bdLB;infer_instance
def bwS (v:List UInt8):Prop:=v.length<9223372036854775808
instance:DecidablePred bwS:=fun v=>inferInstanceAs (Decidable (v.length<9223372036854775808))
def bwLIi64 (v:(List Int)):Prop:=v.length<9223372036854775808
instance:DecidablePred bwLIi64:=fun v=>by unfold bwLIi64;infer_instance
def bwCharacter (v:Character):Prop:=bwLIi64 v.Group/\bwS v.Letter/\bwS v.Colors
instance:DecidablePred bwCharacter:=fun v=>by unfold bwCharacter;infer_instance
def bwPhase (v:Phase):Prop:=bwS v.Color
instance:DecidablePred bwPhase:=fun v=>by unfold bwPhase;infer_instance
def bwLPhase (v:(List Phase)):Prop:=v.length<9223372036854775808/\∀ x∈v,bwPhase x
instance:DecidablePred bwLPhase:=fun v=>by unfold bwLPhase;infer_instance
def bwLS (v:(List (List UInt8))):Prop:=v.length<9223372036854775808/\∀ x∈v,bwS x
instance:DecidablePred bwLS:=fun v=>by unfold bwLS;infer_instance
def bwLB (v:(List Bool)):Prop:=v.length<9223372036854775808
instance:DecidablePred bwLB:=fun v=>by unfold bwLB;infer_instance
theorem ykl (v:List UInt8) (h:ydc [.str v]):bwS v:=Nat.lt_succ_of_le h.1
theorem ynb (v:(List Int)) (h:ydc [encL 1 yi v]):bwLIi64 v:=Nat.lt_succ_of_le (yc h.1).1
theorem yqq (v:(List Int)) (h:ydc (yw v)):bwLIi64 v:=Nat.lt_succ_of_le (yzc h.1).1
theorem yf (v:Character) (h:ydc (eCharacter v)):bwCharacter v:=⟨Nat.lt_succ_of_le (yc h.2.1).1,Nat.lt_succ_of_le h.2.2.1,Nat.lt_succ_of_le h.2.2.2.1⟩
theorem yck (v:Character) (h:ydc (yib v)):bwCharacter v:=⟨Nat.lt_succ_of_le (yzc h.2.1).1,Nat.lt_succ_of_le h.2.2.1,Nat.lt_succ_of_le h.2.2.2.1⟩
theorem ycb (v:Phase) (h:ydc (yn v)):bwPhase v:=Nat.lt_succ_of_le h.1
theorem ypp (v:(List Phase)) (h:ydc [encL 2 yn v]):bwLPhase v:=⟨Nat.lt_succ_of_le (yc h.1).1,fun y hy=>ycb y ((yc h.1).2 y hy)⟩
theorem y8z (v:(List (List UInt8))) (h:ydc [encL 1 eS v]):bwLS v:=⟨Nat.lt_succ_of_le (yc h.1).1,fun y hy=>ykl y ((yc h.1).2 y hy)⟩
theorem fl5 (p:Nat->Prop):(∀ i,i<5->p i)=(p 0/\p 1/\p 2/\p 3/\p 4):=by
 apply propext;refine⟨fun h=>⟨h 0 (by omega),h 1 (by omega),h 2 (by omega),h 3 (by omega),h 4 (by omega)⟩,fun h i hi => ?_⟩;obtain⟨h0,h1,h2,h3,h4⟩:=h;have hc:i=0\/i=1\/i=2\/i=3\/i=4:=by omega
 rcases hc with rfl|rfl|rfl|rfl|rfl<;>assumption
theorem y5z {α:Type} (d:List AV->α) (f:Nat->List AV):decL d 5 f=[d (f 0),d (f 1),d (f 2),d (f 3),d (f 4)]:=rfl
theorem fl6 (p:Nat->Prop):(∀ i,i<6->p i)=(p 0/\p 1/\p 2/\p 3/\p 4/\p 5):=by
 apply propext;refine⟨fun h=>⟨h 0 (by omega),h 1 (by omega),h 2 (by omega),h 3 (by omega),h 4 (by omega),h 5 (by omega)⟩,fun h i hi => ?_⟩;obtain⟨h0,h1,h2,h3,h4,h5⟩:=h;have hc:i=0\/i=1\/i=2\/i=3\/i=4\/i=5:=by omega
 rcases hc with rfl|rfl|rfl|rfl|rfl|rfl<;>assumption
theorem y8y {α:Type} (d:List AV->α) (f:Nat->List AV):decL d 6 f=[d (f 0),d (f 1),d (f 2),d (f 3),d (f 4),d (f 5)]:=rfl
theorem fl7 (p:Nat->Prop):(∀ i,i<7->p i)=(p 0/\p 1/\p 2/\p 3/\p 4/\p 5/\p 6):=by
 apply propext;refine⟨fun h=>⟨h 0 (by omega),h 1 (by omega),h 2 (by omega),h 3 (by omega),h 4 (by omega),h 5 (by omega),h 6 (by omega)⟩,fun h i hi => ?_⟩;obtain⟨h0,h1,h2,h3,h4,h5,h6⟩:=h;have hc:i=0\/i=1\/i=2\/i=3\/i=4\/i=5\/i=6:=by omega
 rcases hc with rfl|rfl|rfl|rfl|rfl|rfl|rfl<;>assumption
theorem y3z {α:Type} (d:List AV->α) (f:Nat->List AV):decL d 7 f=[d (f 0),d (f 1),d (f 2),d (f 3),d (f 4),d (f 5),d (f 6)]:=rfl
theorem fl8 (p:Nat->Prop):(∀ i,i<8->p i)=(p 0/\p 1/\p 2/\p 3/\p 4/\p 5/\p 6/\p 7):=by
 apply propext;refine⟨fun h=>⟨h 0 (by omega),h 1 (by omega),h 2 (by omega),h 3 (by omega),h 4 (by omega),h 5 (by omega),h 6 (by omega),h 7 (by omega)⟩,fun h i hi => ?_⟩;obtain⟨h0,h1,h2,h3,h4,h5,h6,h7⟩:=h;have hc:i=0\/i=1\/i=2\/i=3\/i=4\/i=5\/i=6\/i=7:=by omega
 rcases hc with rfl|rfl|rfl|rfl|rfl|rfl|rfl|rfl<;>assumption
theorem y7z {α:Type} (d:List AV->α) (f:Nat->List AV):decL d 8 f=[d (f 0),d (f 1),d (f 2),d (f 3),d (f 4),d (f 5),d (f 6),d (f 7)]:=rfl
theorem yx1 {α:Type} [Inhabited α] (x0 x1:α):subL [x0,x1] 0 2=[x0,x1]:=rfl
theorem yv1 {α:Type} [Inhabited α] (x0 x1 x2:α):subL [x0,x1,x2] 0 3=[x0,x1,x2]:=rfl
theorem yo1 {α:Type} [Inhabited α] (x0 x1 x2 x3:α):subL [x0,x1,x2,x3] 0 4=[x0,x1,x2,x3]:=rfl
theorem ye1 {α:Type} [Inhabited α] (x0 x1 x2 x3 x4:α):subL [x0,x1,x2,x3,x4] 0 5=[x0,x1,x2,x3,x4]:=rfl
theorem yk1 {α:Type} [Inhabited α] (x0 x1 x2 x3 x4 x5:α):subL [x0,x1,x2,x3,x4,x5] 0 6=[x0,x1,x2,x3,x4,x5]:=rfl
theorem yj1 {α:Type} [Inhabited α] (x0 x1 x2 x3 x4 x5 x6:α):subL [x0,x1,x2,x3,x4,x5,x6] 0 7=[x0,x1,x2,x3,x4,x5,x6]:=rfl
theorem yr1 {α:Type} [Inhabited α] (x0 x1 x2 x3 x4 x5 x6 x7:α):subL [x0,x1,x2,x3,x4,x5,x6,x7] 0 8=[x0,x1,x2,x3,x4,x5,x6,x7]:=rfl
theorem yl1 {α:Type} [Inhabited α] (x0 x1 x2 x3 x4 x5 x6 x7 x8:α):subL [x0,x1,x2,x3,x4,x5,x6,x7,x8] 0 9=[x0,x1,x2,x3,x4,x5,x6,x7,x8]:=rfl
theorem ytz {α:Type} [Inhabited α] (x0 x1 x2 x3 x4 x5 x6 x7 x8 x9:α):subL [x0,x1,x2,x3,x4,x5,x6,x7,x8,x9] 0 10=[x0,x1,x2,x3,x4,x5,x6,x7,x8,x9]:=rfl
theorem yhz {α:Type} [Inhabited α] (x0 x1 x2 x3 x4 x5 x6 x7 x8 x9 x10:α):subL [x0,x1,x2,x3,x4,x5,x6,x7,x8,x9,x10] 0 11=[x0,x1,x2,x3,x4,x5,x6,x7,x8,x9,x10]:=rfl
theorem y9y {α:Type} [Inhabited α] (x0 x1 x2 x3 x4 x5 x6 x7 x8 x9 x10 x11:α):subL [x0,x1,x2,x3,x4,x5,x6,x7,x8,x9,x10,x11] 0 12=[x0,x1,x2,x3,x4,x5,x6,x7,x8,x9,x10,x11]:=rfl
theorem y0z {α:Type} [Inhabited α] (x0 x1 x2 x3 x4 x5 x6 x7 x8 x9 x10 x11 x12:α):subL [x0,x1,x2,x3,x4,x5,x6,x7,x8,x9,x10,x11,x12] 0 13=[x0,x1,x2,x3,x4,x5,x6,x7,x8,x9,x10,x11,x12]:=rfl
theorem yuz {α:Type} [Inhabited α] (x0 x1 x2 x3 x4 x5 x6 x7 x8 x9 x10 x11 x12 x13:α):subL [x0,x1,x2,x3,x4,x5,x6,x7,x8,x9,x10,x11,x12,x13] 0 14=[x0,x1,x2,x3,x4,x5,x6,x7,x8,x9,x10,x11,x12,x13]:=rfl
theorem sv:type_of% (
 And.intro @wGO.eq_def <|
 And.intro @wQ.eq_def <|
 And.intro @rdQ.eq_def <|
 And.intro @y6i <|
 And.intro @fl1 <|
 And.intro @fl2 <|
 And.intro @fl3 <|
 And.intro @fl4 <|
 And.intro @ykz <|
 And.intro @ynz <|
 And.intro @y7y <|
 And.intro @ysz <|
 And.intro @yjz <|
 And.intro @fl5 <|
 And.intro @fl6 <|
 And.intro @fl7 <|
 And.intro @fl8 <|
 And.intro @y5z <|
 And.intro @y8y <|
 And.intro @y3z <|
 And.intro @y7z <|
 And.intro @yx1 <|
 And.intro @yv1 <|
 And.intro @yo1 <|
 And.intro @ye1 <|
 And.intro @yk1 <|
 And.intro @yj1 <|
 And.intro @yr1 <|
 And.intro @yl1 <|
 And.intro @ytz <|
 And.intro @yhz <|
 And.intro @y9y <|
 And.intro @y0z <|
 And.intro @yuz <|
 And.intro @eCharacter.eq_1 <|
 And.intro @ya.eq_1 <|
 And.intro @ytg <|
 And.intro @yib.eq_1 <|
 And.intro @yn.eq_1 <|
 And.intro @y6.eq_1 <|
 And.intro @yio <|
 And.intro @eB.eq_1 <|
 And.intro @dB.eq_1 <|
 And.intro @yje <|
 And.intro @ywz <|
 And.intro @ygz <|
 And.intro @yi.eq_1 <|
 And.intro @ydb.eq_1 <|
 And.intro @ywb <|
 And.intro @yrn <|
 And.intro @yvn <|
 And.intro @eIu8.eq_1 <|
 And.intro @dIu8.eq_1 <|
 And.intro @y5b <|
 And.intro @y5r <|
 And.intro @yrs <|
 And.intro @eLB.eq_1 <|
 And.intro @dLB.eq_1 <|
 And.intro @eLBO.eq_1 <|
 And.intro @yt.eq_1 <|
 And.intro @yv.eq_1 <|
 And.intro @yw.eq_1 <|
 And.intro @y7f.eq_1 <|
 And.intro @y3b.eq_1 <|
 And.intro @yur.eq_1 <|
 And.intro @eLS.eq_1 <|
 And.intro @dLS.eq_1 <|
 And.intro @eLSO.eq_1 <|
 And.intro @ylb <|
 And.intro @ybl <|
 And.intro @yql <|
 And.intro @eS.eq_1 <|
 And.intro @dS.eq_1 <|
 And.intro @yie <|
 And.intro @ycz <|
 And.intro @ylz <|
 And.intro @y9 <|
 And.intro @yyf <|
 And.intro @ywf <|
 And.intro @yab <|
 And.intro @y6e <|
 And.intro @y5e <|
 And.intro @yee <|
 And.intro @yaw <|
 And.intro @y1u <|
 And.intro @ycd <|
 And.intro @y4r <|
 And.intro @y6q <|
 And.intro @ylc <|
 And.intro @yml <|
 And.intro @y2k <|
 And.intro @yjc <|
 And.intro @yqk <|
 And.intro @yuj <|
 And.intro @ywc <|
 And.intro @yrj <|
 And.intro @yak <|
 And.intro @ydd <|
 And.intro @yfi <|
 And.intro @ymi <|
 And.intro @yoq <|
 And.intro @yfu <|
 And.intro @ycu <|
 And.intro @yas <|
 And.intro @y1q <| @ymr):=
 And.intro @wGO.eq_def <|
 And.intro @wQ.eq_def <|
 And.intro @rdQ.eq_def <|
 And.intro @y6i <|
 And.intro @fl1 <|
 And.intro @fl2 <|
 And.intro @fl3 <|
 And.intro @fl4 <|
 And.intro @ykz <|
 And.intro @ynz <|
 And.intro @y7y <|
 And.intro @ysz <|
 And.intro @yjz <|
 And.intro @fl5 <|
 And.intro @fl6 <|
 And.intro @fl7 <|
 And.intro @fl8 <|
 And.intro @y5z <|
 And.intro @y8y <|
 And.intro @y3z <|
 And.intro @y7z <|
 And.intro @yx1 <|
 And.intro @yv1 <|
 And.intro @yo1 <|
 And.intro @ye1 <|
 And.intro @yk1 <|
 And.intro @yj1 <|
 And.intro @yr1 <|
 And.intro @yl1 <|
 And.intro @ytz <|
 And.intro @yhz <|
 And.intro @y9y <|
 And.intro @y0z <|
 And.intro @yuz <|
 And.intro @eCharacter.eq_1 <|
 And.intro @ya.eq_1 <|
 And.intro @ytg <|
 And.intro @yib.eq_1 <|
 And.intro @yn.eq_1 <|
 And.intro @y6.eq_1 <|
 And.intro @yio <|
 And.intro @eB.eq_1 <|
 And.intro @dB.eq_1 <|
 And.intro @yje <|
 And.intro @ywz <|
 And.intro @ygz <|
 And.intro @yi.eq_1 <|
 And.intro @ydb.eq_1 <|
 And.intro @ywb <|
 And.intro @yrn <|
 And.intro @yvn <|
 And.intro @eIu8.eq_1 <|
 And.intro @dIu8.eq_1 <|
 And.intro @y5b <|
 And.intro @y5r <|
 And.intro @yrs <|
 And.intro @eLB.eq_1 <|
 And.intro @dLB.eq_1 <|
 And.intro @eLBO.eq_1 <|
 And.intro @yt.eq_1 <|
 And.intro @yv.eq_1 <|
 And.intro @yw.eq_1 <|
 And.intro @y7f.eq_1 <|
 And.intro @y3b.eq_1 <|
 And.intro @yur.eq_1 <|
 And.intro @eLS.eq_1 <|
 And.intro @dLS.eq_1 <|
 And.intro @eLSO.eq_1 <|
 And.intro @ylb <|
 And.intro @ybl <|
 And.intro @yql <|
 And.intro @eS.eq_1 <|
 And.intro @dS.eq_1 <|
 And.intro @yie <|
 And.intro @ycz <|
 And.intro @ylz <|
 And.intro @y9 <|
 And.intro @yyf <|
 And.intro @ywf <|
 And.intro @yab <|
 And.intro @y6e <|
 And.intro @y5e <|
 And.intro @yee <|
 And.intro @yaw <|
 And.intro @y1u <|
 And.intro @ycd <|
 And.intro @y4r <|
 And.intro @y6q <|
 And.intro @ylc <|
 And.intro @yml <|
 And.intro @y2k <|
 And.intro @yjc <|
 And.intro @yqk <|
 And.intro @yuj <|
 And.intro @ywc <|
 And.intro @yrj <|
 And.intro @yak <|
 And.intro @ydd <|
 And.intro @yfi <|
 And.intro @ymi <|
 And.intro @yoq <|
 And.intro @yfu <|
 And.intro @ycu <|
 And.intro @yas <|
 And.intro @y1q <| @ymr
theorem bdv:type_of% (And.intro @bdS.eq_1 <| And.intro @bdLIi64.eq_1 <| And.intro @bdCharacter.eq_1 <| And.intro @bdPhase.eq_1 <| And.intro @bdLPhase.eq_1 <| And.intro @bdLS.eq_1 <| And.intro @bdLB.eq_1 <| And.intro @bwS.eq_1 <| And.intro @bwLIi64.eq_1 <| And.intro @bwCharacter.eq_1 <| And.intro @bwPhase.eq_1 <| And.intro @bwLPhase.eq_1 <| And.intro @bwLS.eq_1 <| And.intro @bwLB.eq_1 <| @Nat.le_refl):=
 And.intro @bdS.eq_1 <| And.intro @bdLIi64.eq_1 <| And.intro @bdCharacter.eq_1 <| And.intro @bdPhase.eq_1 <| And.intro @bdLPhase.eq_1 <| And.intro @bdLS.eq_1 <| And.intro @bdLB.eq_1 <| And.intro @bwS.eq_1 <| And.intro @bwLIi64.eq_1 <| And.intro @bwCharacter.eq_1 <| And.intro @bwPhase.eq_1 <| And.intro @bwLPhase.eq_1 <| And.intro @bwLS.eq_1 <| And.intro @bwLB.eq_1 <| @Nat.le_refl
end Go.Ab
