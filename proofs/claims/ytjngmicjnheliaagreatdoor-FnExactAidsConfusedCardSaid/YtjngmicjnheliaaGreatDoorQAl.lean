/- A part of a proof: walks of functions and lemmas of our own. No conditions. -/
import Derived.Test.YtjngmicjnheliaaGreatDoorQAk
import Derived.Test.YtjngmicjnheliaaGreatDoorQAh
import Derived.KernelRfl
import Derived.Lib.LaidTab
import Derived.Lib.Fields
import Derived.Lib.ItoaNum
import Derived.Test.YtjngmicjnheliaaGreatDoorProg
set_option linter.unusedSectionVars false
set_option linter.unusedVariables false
set_option linter.unusedSimpArgs false
set_option maxHeartbeats 1000000
namespace Go.Ab
open Go Go.Proofs
def tn0:String:= "strings.asciiSpace"
def yjy (w:World):Prop:=Go.Lib.TabIs Tryz.prog w tn0 .u8 Go.Lib.asciiSpaceTab
theorem g0:Tryz.prog.globalNamed tn0=some 0:=by kernel_rfl
instance inv0:Inv:=⟨yjy,fun b=>b=0,fun w h b hb=>by
  subst hb;unfold yjy Go.Lib.TabIs World.var? at h;rw[g0]at h;simp only[Option.bind_some]at h;by_cases hl:0<w.heap.size
  ·exact hl
  ·rw[Array.getElem?_eq_none (by omega)]at h
   simp at h,fun w w' h ho hb=>by
  unfold yjy Go.Lib.TabIs World.var? at h ⊢;rw[g0]at h ⊢;simp only[Option.bind_some]at h ⊢;rw[hb 0 rfl]
  exact h⟩
def wGO {α : Type} (e : α -> List AV) (d : List AV -> α) : AV -> Prop
 | .agg cs=>simOL cs (e (d cs))
 | _=>False
theorem y9x {α:Type} [Inhabited α] {e:α->List AV} {d:List AV->α} {a:AV} (h:wGO e d a):simO a (.agg (e (rdG d a))):=by
 cases a<;>simp_all[wGO,rdG,simO]
def rdQ {α : Type} [Inhabited α] (d : List AV -> α) : AV -> α
 | .op cs=>d cs
 | _=>default
def wQ {α : Type} (e : α -> List AV) (d : List AV -> α) : AV -> Prop
 | .op cs=>cs=e (d cs)\/simOL cs (e (d cs))
 | _=>False
theorem yjz {α:Type} [Inhabited α] {e:α->List AV} {d:List AV->α} {a:AV} (h:wQ e d a):simO a (.op (e (rdQ d a))):=by
 cases a with
 | op cs=>
  simp only[wQ]at h;simp only[rdQ,simO];rcases h with h|h
  ·rw[<- h];exact y9 _
  ·exact h
 | _=>simp[wQ]at h
def G:Env:=[(2,⟨.int .i64,1,8,[.int .i64 0],true⟩),
 (3,⟨.int .i64,1,8,[.int .i64 0],true⟩),
 (4,⟨.bool,1,1,[.bool false],true⟩),
 (5,⟨.int .u8,1,1,[.int .u8 0],true⟩),
 (9,⟨.string,1,16,[.str []],true⟩),
 (21,⟨.int .i32,1,4,[.int .i32 0],true⟩),
 (23,⟨.struct [(0,2),(1,2)] true,2,16,[.int .i64 0,.int .i64 0],true⟩),
 (25,⟨.struct [(0,2),(1,9),(2,9),(3,9)] true,4,56,[.int .i64 0,.str [],.str [],.str []],true⟩),
 (26,⟨.slice 2,1,24,[.nils],true⟩),
 (28,⟨.struct [(0,2),(1,26),(2,9),(3,9),(4,2)] true,5,72,[.int .i64 0,.nils,.str [],.str [],.int .i64 0],true⟩),
 (29,⟨.slice 65,1,24,[.nils],true⟩),
 (31,⟨.struct [(0,2),(1,9),(2,23),(4,2),(5,25),(9,28),(14,29),(15,2)] true,16,208,[.int .i64 0,.str [],.int .i64 0,.int .i64 0,.int .i64 0,.int .i64 0,.str [],.str [],.str [],.int .i64 0,.nils,.str [],.str [],.int .i64 0,.nils,.int .i64 0],true⟩),
 (35,⟨.struct [(0,2),(1,2)] true,2,16,[.int .i64 0,.int .i64 0],true⟩),
 (36,⟨.struct [(0,2),(1,9),(2,9),(3,9)] true,4,56,[.int .i64 0,.str [],.str [],.str []],true⟩),
 (37,⟨.struct [(0,2),(1,26),(2,9),(3,9),(4,2)] true,5,72,[.int .i64 0,.nils,.str [],.str [],.int .i64 0],true⟩),
 (38,⟨.slice 76,1,24,[.nils],true⟩),
 (40,⟨.struct [(0,2),(1,9),(2,35),(4,2),(5,36),(9,37),(14,38),(15,2)] true,16,208,[.int .i64 0,.str [],.int .i64 0,.int .i64 0,.int .i64 0,.int .i64 0,.str [],.str [],.str [],.int .i64 0,.nils,.str [],.str [],.int .i64 0,.nils,.int .i64 0],true⟩),
 (65,⟨.struct [(0,2),(1,2),(2,9)] true,3,32,[.int .i64 0,.int .i64 0,.str []],true⟩),
 (76,⟨.struct [(0,2),(1,2),(2,9)] true,3,32,[.int .i64 0,.int .i64 0,.str []],true⟩),
 (81,⟨.slice 105,1,24,[.nils],true⟩),
 (92,⟨.slice 9,1,24,[.nils],true⟩),
 (105,⟨.struct [(0,9),(1,2)] true,2,24,[.str [],.int .i64 0],true⟩),
 (125,⟨.slice 81,1,24,[.nils],true⟩),
 (129,⟨.slice 5,1,24,[.nils],true⟩),
 (137,⟨.array 26 9,26,416,[.str [],.str [],.str [],.str [],.str [],.str [],.str [],.str [],.str [],.str [],.str [],.str [],.str [],.str [],.str [],.str [],.str [],.str [],.str [],.str [],.str [],.str [],.str [],.str [],.str [],.str []],true⟩),
 (151,⟨.slice 92,1,24,[.nils],true⟩)]
theorem G_ok:TyOk Tryz.prog G:=by unfold TyOk;kernel_rfl
theorem gv:tget G 2=some ⟨.int .i64,1,8,[.int .i64 0],true⟩ /\
 tget G 3=some ⟨.int .i64,1,8,[.int .i64 0],true⟩ /\
 tget G 4=some ⟨.bool,1,1,[.bool false],true⟩ /\
 tget G 5=some ⟨.int .u8,1,1,[.int .u8 0],true⟩ /\
 tget G 9=some ⟨.string,1,16,[.str []],true⟩ /\
 tget G 21=some ⟨.int .i32,1,4,[.int .i32 0],true⟩ /\
 tget G 23=some ⟨.struct [(0,2),(1,2)] true,2,16,[.int .i64 0,.int .i64 0],true⟩ /\
 tget G 25=some ⟨.struct [(0,2),(1,9),(2,9),(3,9)] true,4,56,[.int .i64 0,.str [],.str [],.str []],true⟩ /\
 tget G 26=some ⟨.slice 2,1,24,[.nils],true⟩ /\
 tget G 28=some ⟨.struct [(0,2),(1,26),(2,9),(3,9),(4,2)] true,5,72,[.int .i64 0,.nils,.str [],.str [],.int .i64 0],true⟩ /\
 tget G 29=some ⟨.slice 65,1,24,[.nils],true⟩ /\
 tget G 31=some ⟨.struct [(0,2),(1,9),(2,23),(4,2),(5,25),(9,28),(14,29),(15,2)] true,16,208,[.int .i64 0,.str [],.int .i64 0,.int .i64 0,.int .i64 0,.int .i64 0,.str [],.str [],.str [],.int .i64 0,.nils,.str [],.str [],.int .i64 0,.nils,.int .i64 0],true⟩ /\
 tget G 35=some ⟨.struct [(0,2),(1,2)] true,2,16,[.int .i64 0,.int .i64 0],true⟩ /\
 tget G 36=some ⟨.struct [(0,2),(1,9),(2,9),(3,9)] true,4,56,[.int .i64 0,.str [],.str [],.str []],true⟩ /\
 tget G 37=some ⟨.struct [(0,2),(1,26),(2,9),(3,9),(4,2)] true,5,72,[.int .i64 0,.nils,.str [],.str [],.int .i64 0],true⟩ /\
 tget G 38=some ⟨.slice 76,1,24,[.nils],true⟩ /\
 tget G 40=some ⟨.struct [(0,2),(1,9),(2,35),(4,2),(5,36),(9,37),(14,38),(15,2)] true,16,208,[.int .i64 0,.str [],.int .i64 0,.int .i64 0,.int .i64 0,.int .i64 0,.str [],.str [],.str [],.int .i64 0,.nils,.str [],.str [],.int .i64 0,.nils,.int .i64 0],true⟩ /\
 tget G 65=some ⟨.struct [(0,2),(1,2),(2,9)] true,3,32,[.int .i64 0,.int .i64 0,.str []],true⟩ /\
 tget G 76=some ⟨.struct [(0,2),(1,2),(2,9)] true,3,32,[.int .i64 0,.int .i64 0,.str []],true⟩ /\
 tget G 81=some ⟨.slice 105,1,24,[.nils],true⟩ /\
 tget G 92=some ⟨.slice 9,1,24,[.nils],true⟩ /\
 tget G 105=some ⟨.struct [(0,9),(1,2)] true,2,24,[.str [],.int .i64 0],true⟩ /\
 tget G 125=some ⟨.slice 81,1,24,[.nils],true⟩ /\
 tget G 129=some ⟨.slice 5,1,24,[.nils],true⟩ /\
 tget G 137=some ⟨.array 26 9,26,416,[.str [],.str [],.str [],.str [],.str [],.str [],.str [],.str [],.str [],.str [],.str [],.str [],.str [],.str [],.str [],.str [],.str [],.str [],.str [],.str [],.str [],.str [],.str [],.str [],.str [],.str []],true⟩ /\
 tget G 151=some ⟨.slice 92,1,24,[.nils],true⟩:=by
 and_intros<;>rfl
theorem mixed:Tryz.prog.follows .mixedOrders=true:=by kernel_rfl
def yq (v:Int):List AV:=[.int .i64 v]
def ynb : List AV -> Int
 | [c]=>rdI c
 | _=>default
def eIu8 (v:Int):List AV:=[.int .u8 v]
def dIu8 : List AV -> Int
 | [c]=>rdI c
 | _=>default
def eS (v:(List UInt8)):List AV:=[.str v]
def dS : List AV -> (List UInt8)
 | [c]=>rdS c
 | _=>default
structure Point where
 X:Int
 Y:Int
 deriving Inhabited,DecidableEq
def ePoint (v:Point):List AV:=[.int .i64 v.X,.int .i64 v.Y]
def yjd : List AV -> Point
 | c0::c1::_=>⟨rdI c0,rdI c1⟩
 | _=>default
theorem yxl (v:Point):Point.mk v.X v.Y=v:=rfl
structure Mark where
 Kind:Int
 Colors:(List UInt8)
 Shape:(List UInt8)
 Topmark:(List UInt8)
 deriving Inhabited,DecidableEq
def eMark (v:Mark):List AV:=[.int .i64 v.Kind,.str v.Colors,.str v.Shape,.str v.Topmark]
def yzd : List AV -> Mark
 | c0::c1::c2::c3::_=>⟨rdI c0,rdS c1,rdS c2,rdS c3⟩
 | _=>default
theorem yao (v:Mark):Mark.mk v.Kind v.Colors v.Shape v.Topmark=v:=rfl
structure Character where
 Kind:Int
 Group:(List Int)
 Letter:(List UInt8)
 Colors:(List UInt8)
 Period:Int
 deriving Inhabited,DecidableEq
def eCharacter (v:Character):List AV:=[.int .i64 v.Kind,encL 1 yq v.Group,.str v.Letter,.str v.Colors,.int .i64 v.Period]
def ygd (v:Character):List AV:=[.int .i64 v.Kind,ownL 2 1 yq v.Group,.str v.Letter,.str v.Colors,.int .i64 v.Period]
def yb : List AV -> Character
 | c0::c1::c2::c3::c4::_=>⟨rdI c0,rdL ynb c1,rdS c2,rdS c3,rdI c4⟩
 | _=>default
theorem yef (v:Character):Character.mk v.Kind v.Group v.Letter v.Colors v.Period=v:=rfl
structure Sector where
 From:Int
 To:Int
 Color:(List UInt8)
 deriving Inhabited,DecidableEq
def eSector (v:Sector):List AV:=[.int .i64 v.From,.int .i64 v.To,.str v.Color]
def yp : List AV -> Sector
 | c0::c1::c2::_=>⟨rdI c0,rdI c1,rdS c2⟩
 | _=>default
theorem yli (v:Sector):Sector.mk v.From v.To v.Color=v:=rfl
structure Aid where
 Number:Int
 Name:(List UInt8)
 At:Point
 Height:Int
 Mark:Mark
 Light:Character
 Sectors:(List Sector)
 Intensity:Int
 deriving Inhabited,DecidableEq
def eAid (v:Aid):List AV:=[.int .i64 v.Number,.str v.Name,.int .i64 v.At.X,.int .i64 v.At.Y,.int .i64 v.Height,.int .i64 v.Mark.Kind,.str v.Mark.Colors,.str v.Mark.Shape,.str v.Mark.Topmark,.int .i64 v.Light.Kind,encL 1 yq v.Light.Group,.str v.Light.Letter,.str v.Light.Colors,.int .i64 v.Light.Period,encL 3 eSector v.Sectors,.int .i64 v.Intensity]
def ytr (v:Aid):List AV:=[.int .i64 v.Number,.str v.Name,.int .i64 v.At.X,.int .i64 v.At.Y,.int .i64 v.Height,.int .i64 v.Mark.Kind,.str v.Mark.Colors,.str v.Mark.Shape,.str v.Mark.Topmark,.int .i64 v.Light.Kind,ownL 2 1 yq v.Light.Group,.str v.Light.Letter,.str v.Light.Colors,.int .i64 v.Light.Period,ownL 76 3 eSector v.Sectors,.int .i64 v.Intensity]
def dAid : List AV -> Aid
 | c0::c1::c2::c3::c4::c5::c6::c7::c8::c9::c10::c11::c12::c13::c14::c15::_=>⟨rdI c0,rdS c1,⟨rdI c2,rdI c3⟩,rdI c4,⟨rdI c5,rdS c6,rdS c7,rdS c8⟩,⟨rdI c9,rdL ynb c10,rdS c11,rdS c12,rdI c13⟩,rdL yp c14,rdI c15⟩
 | _=>default
theorem yat (v:Aid):Aid.mk v.Number v.Name v.At v.Height v.Mark v.Light v.Sectors v.Intensity=v:=rfl
structure Phase where
 Color:(List UInt8)
 Length:Int
 deriving Inhabited,DecidableEq
def ym (v:Phase):List AV:=[.str v.Color,.int .i64 v.Length]
def yu : List AV -> Phase
 | c0::c1::_=>⟨rdS c0,rdI c1⟩
 | _=>default
theorem yel (v:Phase):Phase.mk v.Color v.Length=v:=rfl
theorem yyc (l:List Int):decL ynb l.length (fun i=>[.int .i64 (l.getD i default)])=l:=ygb l
theorem yum (l:List Int) (lo n:Nat):decL ynb n (fun i=>[.int .i64 (l.getD (lo+i) default)])=subL l lo n:=rfl
theorem ybl (l:List Int) (n:Nat):decL ynb n (fun i=>[.int .i64 (l.getD i default)])=subL l 0 n:=by simp only[subL,Nat.zero_add];rfl
theorem y7d (l:List Int):decL dIu8 l.length (fun i=>[.int .u8 (l.getD i default)])=l:=ygb l
theorem yno (l:List Int) (lo n:Nat):decL dIu8 n (fun i=>[.int .u8 (l.getD (lo+i) default)])=subL l lo n:=rfl
theorem y5n (l:List Int) (n:Nat):decL dIu8 n (fun i=>[.int .u8 (l.getD i default)])=subL l 0 n:=by simp only[subL,Nat.zero_add];rfl
def yue (v:(List Phase)):List AV:=[encL 2 ym v]
def yub : List AV -> (List Phase)
 | [c]=>rdL yu c
 | _=>default
def eLS (v:(List (List UInt8))):List AV:=[encL 1 eS v]
def dLS : List AV -> (List (List UInt8))
 | [c]=>rdL dS c
 | _=>default
theorem ydc (l:List Phase):decL yu l.length (fun i=>[.str ((l.getD i default).Color),.int .i64 ((l.getD i default).Length)])=l:=ygb l
theorem ydj (l:List Phase) (lo n:Nat):decL yu n (fun i=>[.str ((l.getD (lo+i) default).Color),.int .i64 ((l.getD (lo+i) default).Length)])=subL l lo n:=rfl
theorem y4i (l:List Phase) (n:Nat):decL yu n (fun i=>[.str ((l.getD i default).Color),.int .i64 ((l.getD i default).Length)])=subL l 0 n:=by simp only[subL,Nat.zero_add];rfl
theorem yui (l:List (List UInt8)):decL dS l.length (fun i=>[.str (l.getD i default)])=l:=ygb l
theorem ydx (l:List (List UInt8)) (lo n:Nat):decL dS n (fun i=>[.str (l.getD (lo+i) default)])=subL l lo n:=rfl
theorem y7w (l:List (List UInt8)) (n:Nat):decL dS n (fun i=>[.str (l.getD i default)])=subL l 0 n:=by simp only[subL,Nat.zero_add];rfl
theorem y3b (l:List Sector):decL yp l.length (fun i=>[.int .i64 ((l.getD i default).From),.int .i64 ((l.getD i default).To),.str ((l.getD i default).Color)])=l:=ygb l
theorem ynh (l:List Sector) (lo n:Nat):decL yp n (fun i=>[.int .i64 ((l.getD (lo+i) default).From),.int .i64 ((l.getD (lo+i) default).To),.str ((l.getD (lo+i) default).Color)])=subL l lo n:=rfl
theorem yfi (l:List Sector) (n:Nat):decL yp n (fun i=>[.int .i64 ((l.getD i default).From),.int .i64 ((l.getD i default).To),.str ((l.getD i default).Color)])=subL l 0 n:=by simp only[subL,Nat.zero_add];rfl
theorem y0f (v:(List Phase)):yub [.sl none 2 v.length (fun j=>[.str ((v.getD j default).Color),.int .i64 ((v.getD j default).Length)])]=v:=by simp only[yub,rdI,rdB,rdS,rdL,yyc,y7d,ydc,yui,y3b]
theorem ykc (l:List (List Phase)):decL yub l.length (fun i=>[.sl none 2 (l.getD i default).length (fun j=>[.str (((l.getD i default).getD j default).Color),.int .i64 (((l.getD i default).getD j default).Length)])])=l:=(List.map_congr_left fun i _=>y0f (l.getD i default)).trans (ygb l)
theorem y0g (l:List (List Phase)) (lo n:Nat):decL yub n (fun i=>[.sl none 2 (l.getD (lo+i) default).length (fun j=>[.str (((l.getD (lo+i) default).getD j default).Color),.int .i64 (((l.getD (lo+i) default).getD j default).Length)])])=subL l lo n:=List.map_congr_left fun i _=>y0f (l.getD (lo+i) default)
theorem y2g (l:List (List Phase)) (n:Nat):decL yub n (fun i=>[.sl none 2 (l.getD i default).length (fun j=>[.str (((l.getD i default).getD j default).Color),.int .i64 (((l.getD i default).getD j default).Length)])])=subL l 0 n:=by simp only[subL,Nat.zero_add];exact List.map_congr_left fun i _=>y0f (l.getD i default)
theorem yre (v:(List Phase)):yub [.sl (some 105) 2 v.length (fun j=>[.str ((v.getD j default).Color),.int .i64 ((v.getD j default).Length)])]=v:=by simp only[yub,rdI,rdB,rdS,rdL,yyc,y7d,ydc,yui,y3b,ykc]
theorem yqc (l:List (List Phase)):decL yub l.length (fun i=>[.sl (some 105) 2 (l.getD i default).length (fun j=>[.str (((l.getD i default).getD j default).Color),.int .i64 (((l.getD i default).getD j default).Length)])])=l:=(List.map_congr_left fun i _=>yre (l.getD i default)).trans (ygb l)
theorem y8f (l:List (List Phase)) (lo n:Nat):decL yub n (fun i=>[.sl (some 105) 2 (l.getD (lo+i) default).length (fun j=>[.str (((l.getD (lo+i) default).getD j default).Color),.int .i64 (((l.getD (lo+i) default).getD j default).Length)])])=subL l lo n:=List.map_congr_left fun i _=>yre (l.getD (lo+i) default)
theorem y9f (l:List (List Phase)) (n:Nat):decL yub n (fun i=>[.sl (some 105) 2 (l.getD i default).length (fun j=>[.str (((l.getD i default).getD j default).Color),.int .i64 (((l.getD i default).getD j default).Length)])])=subL l 0 n:=by simp only[subL,Nat.zero_add];exact List.map_congr_left fun i _=>yre (l.getD i default)
theorem yzs (v:(List (List UInt8))):dLS [.sl none 1 v.length (fun j=>[.str (v.getD j default)])]=v:=by simp only[dLS,rdI,rdB,rdS,rdL,yyc,y7d,ydc,yui,y3b,ykc,yqc]
theorem yun (l:List (List (List UInt8))):decL dLS l.length (fun i=>[.sl none 1 (l.getD i default).length (fun j=>[.str ((l.getD i default).getD j default)])])=l:=(List.map_congr_left fun i _=>yzs (l.getD i default)).trans (ygb l)
theorem yls (l:List (List (List UInt8))) (lo n:Nat):decL dLS n (fun i=>[.sl none 1 (l.getD (lo+i) default).length (fun j=>[.str ((l.getD (lo+i) default).getD j default)])])=subL l lo n:=List.map_congr_left fun i _=>yzs (l.getD (lo+i) default)
theorem yrs (l:List (List (List UInt8))) (n:Nat):decL dLS n (fun i=>[.sl none 1 (l.getD i default).length (fun j=>[.str ((l.getD i default).getD j default)])])=subL l 0 n:=by simp only[subL,Nat.zero_add];exact List.map_congr_left fun i _=>yzs (l.getD i default)
theorem yln (v:(List (List UInt8))):dLS [.sl (some 9) 1 v.length (fun j=>[.str (v.getD j default)])]=v:=by simp only[dLS,rdI,rdB,rdS,rdL,yyc,y7d,ydc,yui,y3b,ykc,yqc,yun]
theorem yio (l:List (List (List UInt8))):decL dLS l.length (fun i=>[.sl (some 9) 1 (l.getD i default).length (fun j=>[.str ((l.getD i default).getD j default)])])=l:=(List.map_congr_left fun i _=>yln (l.getD i default)).trans (ygb l)
theorem y5o (l:List (List (List UInt8))) (lo n:Nat):decL dLS n (fun i=>[.sl (some 9) 1 (l.getD (lo+i) default).length (fun j=>[.str ((l.getD (lo+i) default).getD j default)])])=subL l lo n:=List.map_congr_left fun i _=>yln (l.getD (lo+i) default)
theorem ypp (l:List (List (List UInt8))) (n:Nat):decL dLS n (fun i=>[.sl (some 9) 1 (l.getD i default).length (fun j=>[.str ((l.getD i default).getD j default)])])=subL l 0 n:=by simp only[subL,Nat.zero_add];exact List.map_congr_left fun i _=>yln (l.getD i default)
def bdS (v:List UInt8):Prop:=v.length<1099511627776
instance:DecidablePred bdS:=fun v=>inferInstanceAs (Decidable (v.length<1099511627776))
def bdMark (v:Mark):Prop:=bdS v.Colors/\bdS v.Shape/\bdS v.Topmark
instance:DecidablePred bdMark:=fun v=>by unfold bdMark;infer_instance
def bdLIi64 (v:(List Int)):Prop:=v.length<1099511627776
instance:DecidablePred bdLIi64:=fun v=>by unfold bdLIi64;infer_instance
def bdCharacter (v:Character):Prop:=bdLIi64 v.Group/\bdS v.Letter/\bdS v.Colors
instance:DecidablePred bdCharacter:=fun v=>by unfold bdCharacter;infer_instance
def bdSector (v:Sector):Prop:=bdS v.Color
instance:DecidablePred bdSector:=fun v=>by unfold bdSector;infer_instance
def bdLSector (v:(List Sector)):Prop:=v.length<1099511627776/\∀ x∈v,bdSector x
instance:DecidablePred bdLSector:=fun v=>by unfold bdLSector;infer_instance
def bdAid (v:Aid):Prop:=bdS v.Name/\bdMark v.Mark/\bdCharacter v.Light/\bdLSector v.Sectors
instance:DecidablePred bdAid:=fun v=>by unfold bdAid;infer_instance
def bdPhase (v:Phase):Prop:=bdS v.Color
instance:DecidablePred bdPhase:=fun v=>by unfold bdPhase;infer_instance
def bdLPhase (v:(List Phase)):Prop:=v.length<1099511627776/\∀ x∈v,bdPhase x
instance:DecidablePred bdLPhase:=fun v=>by unfold bdLPhase;infer_instance
def bdLS (v:(List (List UInt8))):Prop:=v.length<1099511627776/\∀ x∈v,bdS x
instance:DecidablePred bdLS:=fun v=>by unfold bdLS;infer_instance
def bwS (v:List UInt8):Prop:=v.length<9223372036854775808
instance:DecidablePred bwS:=fun v=>inferInstanceAs (Decidable (v.length<9223372036854775808))
def bwMark (v:Mark):Prop:=bwS v.Colors/\bwS v.Shape/\bwS v.Topmark
instance:DecidablePred bwMark:=fun v=>by unfold bwMark;infer_instance
def bwLIi64 (v:(List Int)):Prop:=v.length<9223372036854775808
instance:DecidablePred bwLIi64:=fun v=>by unfold bwLIi64;infer_instance
def bwCharacter (v:Character):Prop:=bwLIi64 v.Group/\bwS v.Letter/\bwS v.Colors
instance:DecidablePred bwCharacter:=fun v=>by unfold bwCharacter;infer_instance
def bwSector (v:Sector):Prop:=bwS v.Color
instance:DecidablePred bwSector:=fun v=>by unfold bwSector;infer_instance
def bwLSector (v:(List Sector)):Prop:=v.length<9223372036854775808/\∀ x∈v,bwSector x
instance:DecidablePred bwLSector:=fun v=>by unfold bwLSector;infer_instance
def bwAid (v:Aid):Prop:=bwS v.Name/\bwMark v.Mark/\bwCharacter v.Light/\bwLSector v.Sectors
instance:DecidablePred bwAid:=fun v=>by unfold bwAid;infer_instance
def bwPhase (v:Phase):Prop:=bwS v.Color
instance:DecidablePred bwPhase:=fun v=>by unfold bwPhase;infer_instance
def bwLPhase (v:(List Phase)):Prop:=v.length<9223372036854775808/\∀ x∈v,bwPhase x
instance:DecidablePred bwLPhase:=fun v=>by unfold bwLPhase;infer_instance
def bwLS (v:(List (List UInt8))):Prop:=v.length<9223372036854775808/\∀ x∈v,bwS x
instance:DecidablePred bwLS:=fun v=>by unfold bwLS;infer_instance
theorem ydf (v:List UInt8) (h:yad [.str v]):bwS v:=Nat.lt_succ_of_le h.1
theorem yec (v:Mark) (h:yad (eMark v)):bwMark v:=⟨Nat.lt_succ_of_le h.2.1,Nat.lt_succ_of_le h.2.2.1,Nat.lt_succ_of_le h.2.2.2.1⟩
theorem yj (v:Character) (h:yad (eCharacter v)):bwCharacter v:=⟨Nat.lt_succ_of_le (yd h.2.1).1,Nat.lt_succ_of_le h.2.2.1,Nat.lt_succ_of_le h.2.2.2.1⟩
theorem yr (v:Sector) (h:yad (eSector v)):bwSector v:=Nat.lt_succ_of_le h.2.2.1
theorem ydb (v:Aid) (h:yad (eAid v)):bwAid v:=⟨Nat.lt_succ_of_le h.2.1,⟨Nat.lt_succ_of_le h.2.2.2.2.2.2.1,Nat.lt_succ_of_le h.2.2.2.2.2.2.2.1,Nat.lt_succ_of_le h.2.2.2.2.2.2.2.2.1⟩,⟨Nat.lt_succ_of_le (yd h.2.2.2.2.2.2.2.2.2.2.1).1,Nat.lt_succ_of_le h.2.2.2.2.2.2.2.2.2.2.2.1,Nat.lt_succ_of_le h.2.2.2.2.2.2.2.2.2.2.2.2.1⟩,⟨Nat.lt_succ_of_le (yd h.2.2.2.2.2.2.2.2.2.2.2.2.2.2.1).1,fun y hy=>yr y ((yd h.2.2.2.2.2.2.2.2.2.2.2.2.2.2.1).2 y hy)⟩⟩
theorem y8 (v:Phase) (h:yad (ym v)):bwPhase v:=Nat.lt_succ_of_le h.1
theorem yzm (v:(List Phase)) (h:yad [encL 2 ym v]):bwLPhase v:=⟨Nat.lt_succ_of_le (yd h.1).1,fun y hy=>y8 y ((yd h.1).2 y hy)⟩
theorem ycy (v:(List (List UInt8))) (h:yad [encL 1 eS v]):bwLS v:=⟨Nat.lt_succ_of_le (yd h.1).1,fun y hy=>ydf y ((yd h.1).2 y hy)⟩
theorem fl5 (p:Nat->Prop):(∀ i,i<5->p i)=(p 0/\p 1/\p 2/\p 3/\p 4):=by
 apply propext;refine⟨fun h=>⟨h 0 (by omega),h 1 (by omega),h 2 (by omega),h 3 (by omega),h 4 (by omega)⟩,fun h i hi => ?_⟩;obtain⟨h0,h1,h2,h3,h4⟩:=h;have hc:i=0\/i=1\/i=2\/i=3\/i=4:=by omega
 rcases hc with rfl|rfl|rfl|rfl|rfl<;>assumption
theorem yax {α:Type} (d:List AV->α) (f:Nat->List AV):decL d 5 f=[d (f 0),d (f 1),d (f 2),d (f 3),d (f 4)]:=rfl
theorem fl6 (p:Nat->Prop):(∀ i,i<6->p i)=(p 0/\p 1/\p 2/\p 3/\p 4/\p 5):=by
 apply propext;refine⟨fun h=>⟨h 0 (by omega),h 1 (by omega),h 2 (by omega),h 3 (by omega),h 4 (by omega),h 5 (by omega)⟩,fun h i hi => ?_⟩;obtain⟨h0,h1,h2,h3,h4,h5⟩:=h;have hc:i=0\/i=1\/i=2\/i=3\/i=4\/i=5:=by omega
 rcases hc with rfl|rfl|rfl|rfl|rfl|rfl<;>assumption
theorem ynx {α:Type} (d:List AV->α) (f:Nat->List AV):decL d 6 f=[d (f 0),d (f 1),d (f 2),d (f 3),d (f 4),d (f 5)]:=rfl
theorem fl7 (p:Nat->Prop):(∀ i,i<7->p i)=(p 0/\p 1/\p 2/\p 3/\p 4/\p 5/\p 6):=by
 apply propext;refine⟨fun h=>⟨h 0 (by omega),h 1 (by omega),h 2 (by omega),h 3 (by omega),h 4 (by omega),h 5 (by omega),h 6 (by omega)⟩,fun h i hi => ?_⟩;obtain⟨h0,h1,h2,h3,h4,h5,h6⟩:=h;have hc:i=0\/i=1\/i=2\/i=3\/i=4\/i=5\/i=6:=by omega
 rcases hc with rfl|rfl|rfl|rfl|rfl|rfl|rfl<;>assumption
theorem y9w {α:Type} (d:List AV->α) (f:Nat->List AV):decL d 7 f=[d (f 0),d (f 1),d (f 2),d (f 3),d (f 4),d (f 5),d (f 6)]:=rfl
theorem fl8 (p:Nat->Prop):(∀ i,i<8->p i)=(p 0/\p 1/\p 2/\p 3/\p 4/\p 5/\p 6/\p 7):=by
 apply propext;refine⟨fun h=>⟨h 0 (by omega),h 1 (by omega),h 2 (by omega),h 3 (by omega),h 4 (by omega),h 5 (by omega),h 6 (by omega),h 7 (by omega)⟩,fun h i hi => ?_⟩;obtain⟨h0,h1,h2,h3,h4,h5,h6,h7⟩:=h;have hc:i=0\/i=1\/i=2\/i=3\/i=4\/i=5\/i=6\/i=7:=by omega
 rcases hc with rfl|rfl|rfl|rfl|rfl|rfl|rfl|rfl<;>assumption
theorem ybx {α:Type} (d:List AV->α) (f:Nat->List AV):decL d 8 f=[d (f 0),d (f 1),d (f 2),d (f 3),d (f 4),d (f 5),d (f 6),d (f 7)]:=rfl
theorem ysz {α:Type} [Inhabited α] (x0 x1:α):subL [x0,x1] 0 2=[x0,x1]:=rfl
theorem yqz {α:Type} [Inhabited α] (x0 x1 x2:α):subL [x0,x1,x2] 0 3=[x0,x1,x2]:=rfl
theorem y3y {α:Type} [Inhabited α] (x0 x1 x2 x3:α):subL [x0,x1,x2,x3] 0 4=[x0,x1,x2,x3]:=rfl
theorem ykz {α:Type} [Inhabited α] (x0 x1 x2 x3 x4:α):subL [x0,x1,x2,x3,x4] 0 5=[x0,x1,x2,x3,x4]:=rfl
theorem ydz {α:Type} [Inhabited α] (x0 x1 x2 x3 x4 x5:α):subL [x0,x1,x2,x3,x4,x5] 0 6=[x0,x1,x2,x3,x4,x5]:=rfl
theorem ymz {α:Type} [Inhabited α] (x0 x1 x2 x3 x4 x5 x6:α):subL [x0,x1,x2,x3,x4,x5,x6] 0 7=[x0,x1,x2,x3,x4,x5,x6]:=rfl
theorem y8y {α:Type} [Inhabited α] (x0 x1 x2 x3 x4 x5 x6 x7:α):subL [x0,x1,x2,x3,x4,x5,x6,x7] 0 8=[x0,x1,x2,x3,x4,x5,x6,x7]:=rfl
theorem ygz {α:Type} [Inhabited α] (x0 x1 x2 x3 x4 x5 x6 x7 x8:α):subL [x0,x1,x2,x3,x4,x5,x6,x7,x8] 0 9=[x0,x1,x2,x3,x4,x5,x6,x7,x8]:=rfl
theorem yhx {α:Type} [Inhabited α] (x0 x1 x2 x3 x4 x5 x6 x7 x8 x9:α):subL [x0,x1,x2,x3,x4,x5,x6,x7,x8,x9] 0 10=[x0,x1,x2,x3,x4,x5,x6,x7,x8,x9]:=rfl
theorem yrx {α:Type} [Inhabited α] (x0 x1 x2 x3 x4 x5 x6 x7 x8 x9 x10:α):subL [x0,x1,x2,x3,x4,x5,x6,x7,x8,x9,x10] 0 11=[x0,x1,x2,x3,x4,x5,x6,x7,x8,x9,x10]:=rfl
theorem y8w {α:Type} [Inhabited α] (x0 x1 x2 x3 x4 x5 x6 x7 x8 x9 x10 x11:α):subL [x0,x1,x2,x3,x4,x5,x6,x7,x8,x9,x10,x11] 0 12=[x0,x1,x2,x3,x4,x5,x6,x7,x8,x9,x10,x11]:=rfl
theorem ypx {α:Type} [Inhabited α] (x0 x1 x2 x3 x4 x5 x6 x7 x8 x9 x10 x11 x12:α):subL [x0,x1,x2,x3,x4,x5,x6,x7,x8,x9,x10,x11,x12] 0 13=[x0,x1,x2,x3,x4,x5,x6,x7,x8,x9,x10,x11,x12]:=rfl
theorem yix {α:Type} [Inhabited α] (x0 x1 x2 x3 x4 x5 x6 x7 x8 x9 x10 x11 x12 x13:α):subL [x0,x1,x2,x3,x4,x5,x6,x7,x8,x9,x10,x11,x12,x13] 0 14=[x0,x1,x2,x3,x4,x5,x6,x7,x8,x9,x10,x11,x12,x13]:=rfl
theorem sv:type_of% (
 And.intro @wGO.eq_def <|
 And.intro @wQ.eq_def <|
 And.intro @rdQ.eq_def <|
 And.intro @y3n <|
 And.intro @fl1 <|
 And.intro @fl2 <|
 And.intro @fl3 <|
 And.intro @fl4 <|
 And.intro @y4w <|
 And.intro @ylx <|
 And.intro @ykx <|
 And.intro @ysx <|
 And.intro @yqx <|
 And.intro @fl5 <|
 And.intro @fl6 <|
 And.intro @fl7 <|
 And.intro @fl8 <|
 And.intro @yax <|
 And.intro @ynx <|
 And.intro @y9w <|
 And.intro @ybx <|
 And.intro @ysz <|
 And.intro @yqz <|
 And.intro @y3y <|
 And.intro @ykz <|
 And.intro @ydz <|
 And.intro @ymz <|
 And.intro @y8y <|
 And.intro @ygz <|
 And.intro @yhx <|
 And.intro @yrx <|
 And.intro @y8w <|
 And.intro @ypx <|
 And.intro @yix <|
 And.intro @eAid.eq_1 <|
 And.intro @dAid.eq_1 <|
 And.intro @yat <|
 And.intro @ytr.eq_1 <|
 And.intro @ePoint.eq_1 <|
 And.intro @yjd.eq_1 <|
 And.intro @yxl <|
 And.intro @eMark.eq_1 <|
 And.intro @yzd.eq_1 <|
 And.intro @yao <|
 And.intro @eCharacter.eq_1 <|
 And.intro @yb.eq_1 <|
 And.intro @yef <|
 And.intro @ygd.eq_1 <|
 And.intro @eSector.eq_1 <|
 And.intro @yp.eq_1 <|
 And.intro @yli <|
 And.intro @ym.eq_1 <|
 And.intro @yu.eq_1 <|
 And.intro @yel <|
 And.intro @yq.eq_1 <|
 And.intro @ynb.eq_1 <|
 And.intro @yyc <|
 And.intro @yum <|
 And.intro @ybl <|
 And.intro @eIu8.eq_1 <|
 And.intro @dIu8.eq_1 <|
 And.intro @y7d <|
 And.intro @yno <|
 And.intro @y5n <|
 And.intro @yue.eq_1 <|
 And.intro @yub.eq_1 <|
 And.intro @eLS.eq_1 <|
 And.intro @dLS.eq_1 <|
 And.intro @ydc <|
 And.intro @ydj <|
 And.intro @y4i <|
 And.intro @eS.eq_1 <|
 And.intro @dS.eq_1 <|
 And.intro @yui <|
 And.intro @ydx <|
 And.intro @y7w <|
 And.intro @y3b <|
 And.intro @ynh <|
 And.intro @yfi <|
 And.intro @ykc <|
 And.intro @y0g <|
 And.intro @y2g <|
 And.intro @yqc <|
 And.intro @y8f <|
 And.intro @y9f <|
 And.intro @yun <|
 And.intro @yls <|
 And.intro @yrs <|
 And.intro @yio <|
 And.intro @y5o <| @ypp):=
 And.intro @wGO.eq_def <|
 And.intro @wQ.eq_def <|
 And.intro @rdQ.eq_def <|
 And.intro @y3n <|
 And.intro @fl1 <|
 And.intro @fl2 <|
 And.intro @fl3 <|
 And.intro @fl4 <|
 And.intro @y4w <|
 And.intro @ylx <|
 And.intro @ykx <|
 And.intro @ysx <|
 And.intro @yqx <|
 And.intro @fl5 <|
 And.intro @fl6 <|
 And.intro @fl7 <|
 And.intro @fl8 <|
 And.intro @yax <|
 And.intro @ynx <|
 And.intro @y9w <|
 And.intro @ybx <|
 And.intro @ysz <|
 And.intro @yqz <|
 And.intro @y3y <|
 And.intro @ykz <|
 And.intro @ydz <|
 And.intro @ymz <|
 And.intro @y8y <|
 And.intro @ygz <|
 And.intro @yhx <|
 And.intro @yrx <|
 And.intro @y8w <|
 And.intro @ypx <|
 And.intro @yix <|
 And.intro @eAid.eq_1 <|
 And.intro @dAid.eq_1 <|
 And.intro @yat <|
 And.intro @ytr.eq_1 <|
 And.intro @ePoint.eq_1 <|
 And.intro @yjd.eq_1 <|
 And.intro @yxl <|
 And.intro @eMark.eq_1 <|
 And.intro @yzd.eq_1 <|
 And.intro @yao <|
 And.intro @eCharacter.eq_1 <|
 And.intro @yb.eq_1 <|
 And.intro @yef <|
 And.intro @ygd.eq_1 <|
 And.intro @eSector.eq_1 <|
 And.intro @yp.eq_1 <|
 And.intro @yli <|
 And.intro @ym.eq_1 <|
 And.intro @yu.eq_1 <|
 And.intro @yel <|
 And.intro @yq.eq_1 <|
 And.intro @ynb.eq_1 <|
 And.intro @yyc <|
 And.intro @yum <|
 And.intro @ybl <|
 And.intro @eIu8.eq_1 <|
 And.intro @dIu8.eq_1 <|
 And.intro @y7d <|
 And.intro @yno <|
 And.intro @y5n <|
 And.intro @yue.eq_1 <|
 And.intro @yub.eq_1 <|
 And.intro @eLS.eq_1 <|
 And.intro @dLS.eq_1 <|
 And.intro @ydc <|
 And.intro @ydj <|
 And.intro @y4i <|
 And.intro @eS.eq_1 <|
 And.intro @dS.eq_1 <|
 And.intro @yui <|
 And.intro @ydx <|
 And.intro @y7w <|
 And.intro @y3b <|
 And.intro @ynh <|
 And.intro @yfi <|
 And.intro @ykc <|
 And.intro @y0g <|
 And.intro @y2g <|
 And.intro @yqc <|
 And.intro @y8f <|
 And.intro @y9f <|
 And.intro @yun <|
 And.intro @yls <|
 And.intro @yrs <|
 And.intro @yio <|
 And.intro @y5o <| @ypp
theorem bdv:type_of% (And.intro @bdS.eq_1 <| And.intro @bdMark.eq_1 <| And.intro @bdLIi64.eq_1 <| And.intro @bdCharacter.eq_1 <| And.intro @bdSector.eq_1 <| And.intro @bdLSector.eq_1 <| And.intro @bdAid.eq_1 <| And.intro @bdPhase.eq_1 <| And.intro @bdLPhase.eq_1 <| And.intro @bdLS.eq_1 <| And.intro @bwS.eq_1 <| And.intro @bwMark.eq_1 <| And.intro @bwLIi64.eq_1 <| And.intro @bwCharacter.eq_1 <| And.intro @bwSector.eq_1 <| And.intro @bwLSector.eq_1 <| And.intro @bwAid.eq_1 <| And.intro @bwPhase.eq_1 <| And.intro @bwLPhase.eq_1 <| And.intro @bwLS.eq_1 <| @Nat.le_refl):=
 And.intro @bdS.eq_1 <| And.intro @bdMark.eq_1 <| And.intro @bdLIi64.eq_1 <| And.intro @bdCharacter.eq_1 <| And.intro @bdSector.eq_1 <| And.intro @bdLSector.eq_1 <| And.intro @bdAid.eq_1 <| And.intro @bdPhase.eq_1 <| And.intro @bdLPhase.eq_1 <| And.intro @bdLS.eq_1 <| And.intro @bwS.eq_1 <| And.intro @bwMark.eq_1 <| And.intro @bwLIi64.eq_1 <| And.intro @bwCharacter.eq_1 <| And.intro @bwSector.eq_1 <| And.intro @bwLSector.eq_1 <| And.intro @bwAid.eq_1 <| And.intro @bwPhase.eq_1 <| And.intro @bwLPhase.eq_1 <| And.intro @bwLS.eq_1 <| @Nat.le_refl
end Go.Ab
