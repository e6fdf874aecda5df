/- A part of a proof: walks of functions and lemmas of our own. No conditions. -/
import Derived.Test.YtijmcongeemehaaGreatDoorEAk
import Derived.Test.YtijmcongeemehaaGreatDoorEAh
import Derived.KernelRfl
import Derived.Lib.LaidTab
import Derived.Lib.Fields
import Derived.Lib.ItoaNum
import Derived.Test.YtijmcongeemehaaGreatDoorProg
set_option linter.unusedSectionVars false
set_option linter.unusedVariables false
set_option linter.unusedSimpArgs false
set_option maxHeartbeats 1000000
namespace Go.Ab
open Go Go.Proofs
def tn0:String:= "internal/strconv.uint64pow10"
def tn1:String:= "strings.asciiSpace"
def y0q (w:World):Prop:=(Go.Lib.TabIs Tryz.prog w tn0 .u64 Go.Lib.pow10Tab/\∃ m,w.cell? ⟨1,0,none⟩=some (.int .i64 m))/\(∃ te pe,w.cell? ⟨3,0,none⟩=some (.iface te pe))/\(∃ te pe,w.cell? ⟨4,0,none⟩=some (.iface te pe))/\Go.Lib.TabIs Tryz.prog w tn1 .u8 Go.Lib.asciiSpaceTab
theorem g0:Tryz.prog.globalNamed tn0=some 2:=by kernel_rfl
theorem g1:Tryz.prog.globalNamed tn1=some 0:=by kernel_rfl
theorem y5w {w:World} (h:y0q w):4<w.heap.size:=by
 obtain⟨te,pe,h⟩:=h.2.2.1;by_cases hl:4<w.heap.size
 ·exact hl
 ·have h5:w.heap[4]? = none:=Array.getElem?_eq_none (by omega)
  unfold World.cell? at h;simp[h5]at h
theorem y6i {w w':World} {b:Nat} (h:w'.heap[b]? = w.heap[b]?):w'.cell? ⟨b,0,none⟩=w.cell? ⟨b,0,none⟩:=by
 unfold World.cell?;simp only[h]
instance inv0:Inv:=⟨y0q,fun b=>b<=4,fun w h b hb=>by have:=y5w h;omega,fun w w' h ho hb=>by
  obtain⟨⟨h1,h2⟩,h3,h4,h5⟩:=h;refine⟨⟨?_,by rw[y6i (hb 1 (by omega))];exact h2⟩,by rw[y6i (hb 3 (by omega))];exact h3,by rw[y6i (hb 4 (by omega))];exact h4,?_⟩
  ·unfold Go.Lib.TabIs World.var? at h1 ⊢
   rw[g0]at h1 ⊢;simp only[Option.bind_some]at h1 ⊢;rw[hb 2 (by omega)];exact h1
  ·unfold Go.Lib.TabIs World.var? at h5 ⊢
   rw[g1]at h5 ⊢;simp only[Option.bind_some]at h5 ⊢;rw[hb 0 (by omega)]
   exact h5⟩
def wGO {α : Type} (e : α -> List AV) (d : List AV -> α) : AV -> Prop
 | .agg cs=>simOL cs (e (d cs))
 | _=>False
theorem yvy {α:Type} [Inhabited α] {e:α->List AV} {d:List AV->α} {a:AV} (h:wGO e d a):simO a (.agg (e (rdG d a))):=by
 cases a<;>simp_all[wGO,rdG,simO]
def rdQ {α : Type} [Inhabited α] (d : List AV -> α) : AV -> α
 | .op cs=>d cs
 | _=>default
def wQ {α : Type} (e : α -> List AV) (d : List AV -> α) : AV -> Prop
 | .op cs=>cs=e (d cs)\/simOL cs (e (d cs))
 | _=>False
theorem yy5 {α:Type} [Inhabited α] {e:α->List AV} {d:List AV->α} {a:AV} (h:wQ e d a):simO a (.op (e (rdQ d a))):=by
 cases a with
 | op cs=>
  simp only[wQ]at h;simp only[rdQ,simO];rcases h with h|h
  ·rw[<- h];exact y9 _
  ·exact h
 | _=>simp[wQ]at h
def G:Env:=[(2,⟨.int .i64,1,8,[.int .i64 0],true⟩),
 (3,⟨.int .i64,1,8,[.int .i64 0],true⟩),
 (4,⟨.bool,1,1,[.bool false],true⟩),
 (5,⟨.int .u8,1,1,[.int .u8 0],true⟩),
 (9,⟨.string,1,16,[.str []],true⟩),
 (21,⟨.int .i32,1,4,[.int .i32 0],true⟩),
 (22,⟨.slice 5,1,24,[.nils],true⟩),
 (24,⟨.slice 59,1,24,[.nils],true⟩),
 (26,⟨.slice 91,1,24,[.nils],true⟩),
 (34,⟨.struct [(0,2),(1,2),(2,24)] true,3,40,[.int .i64 0,.int .i64 0,.nils],true⟩),
 (38,⟨.slice 2,1,24,[.nils],true⟩),
 (54,⟨.struct [(0,2),(1,2)] true,2,16,[.int .i64 0,.int .i64 0],true⟩),
 (55,⟨.struct [(0,2),(1,9),(2,9),(3,9)] true,4,56,[.int .i64 0,.str [],.str [],.str []],true⟩),
 (56,⟨.struct [(0,2),(1,38),(2,9),(3,9),(4,2)] true,5,72,[.int .i64 0,.nils,.str [],.str [],.int .i64 0],true⟩),
 (57,⟨.slice 135,1,24,[.nils],true⟩),
 (59,⟨.struct [(0,2),(1,9),(2,54),(4,2),(5,55),(9,56),(14,57),(15,2)] true,16,208,[.int .i64 0,.str [],.int .i64 0,.int .i64 0,.int .i64 0,.int .i64 0,.str [],.str [],.str [],.int .i64 0,.nils,.str [],.str [],.int .i64 0,.nils,.int .i64 0],true⟩),
 (91,⟨.struct [(0,2),(1,2),(2,2),(3,2),(4,59)] true,20,240,[.int .i64 0,.int .i64 0,.int .i64 0,.int .i64 0,.int .i64 0,.str [],.int .i64 0,.int .i64 0,.int .i64 0,.int .i64 0,.str [],.str [],.str [],.int .i64 0,.nils,.str [],.str [],.int .i64 0,.nils,.int .i64 0],true⟩),
 (109,⟨.slice 9,1,24,[.nils],true⟩),
 (123,⟨.array 7 4,7,7,[.bool false,.bool false,.bool false,.bool false,.bool false,.bool false,.bool false],true⟩),
 (135,⟨.struct [(0,2),(1,2),(2,9)] true,3,32,[.int .i64 0,.int .i64 0,.str []],true⟩),
 (145,⟨.int .u64,1,8,[.int .u64 0],true⟩),
 (147,⟨.struct [(0,22),(1,3),(2,145)] true,3,40,[.nils,.int .i64 0,.int .u64 0],true⟩),
 (269,⟨.array 26 9,26,416,[.str [],.str [],.str [],.str [],.str [],.str [],.str [],.str [],.str [],.str [],.str [],.str [],.str [],.str [],.str [],.str [],.str [],.str [],.str [],.str [],.str [],.str [],.str [],.str [],.str [],.str []],true⟩),
 (281,⟨.array 12 2,12,96,[.int .i64 0,.int .i64 0,.int .i64 0,.int .i64 0,.int .i64 0,.int .i64 0,.int .i64 0,.int .i64 0,.int .i64 0,.int .i64 0,.int .i64 0,.int .i64 0],true⟩)]
theorem G_ok:TyOk Tryz.prog G:=by unfold TyOk;kernel_rfl
theorem gv:tget G 2=some ⟨.int .i64,1,8,[.int .i64 0],true⟩ /\
 tget G 3=some ⟨.int .i64,1,8,[.int .i64 0],true⟩ /\
 tget G 4=some ⟨.bool,1,1,[.bool false],true⟩ /\
 tget G 5=some ⟨.int .u8,1,1,[.int .u8 0],true⟩ /\
 tget G 9=some ⟨.string,1,16,[.str []],true⟩ /\
 tget G 21=some ⟨.int .i32,1,4,[.int .i32 0],true⟩ /\
 tget G 22=some ⟨.slice 5,1,24,[.nils],true⟩ /\
 tget G 24=some ⟨.slice 59,1,24,[.nils],true⟩ /\
 tget G 26=some ⟨.slice 91,1,24,[.nils],true⟩ /\
 tget G 34=some ⟨.struct [(0,2),(1,2),(2,24)] true,3,40,[.int .i64 0,.int .i64 0,.nils],true⟩ /\
 tget G 38=some ⟨.slice 2,1,24,[.nils],true⟩ /\
 tget G 54=some ⟨.struct [(0,2),(1,2)] true,2,16,[.int .i64 0,.int .i64 0],true⟩ /\
 tget G 55=some ⟨.struct [(0,2),(1,9),(2,9),(3,9)] true,4,56,[.int .i64 0,.str [],.str [],.str []],true⟩ /\
 tget G 56=some ⟨.struct [(0,2),(1,38),(2,9),(3,9),(4,2)] true,5,72,[.int .i64 0,.nils,.str [],.str [],.int .i64 0],true⟩ /\
 tget G 57=some ⟨.slice 135,1,24,[.nils],true⟩ /\
 tget G 59=some ⟨.struct [(0,2),(1,9),(2,54),(4,2),(5,55),(9,56),(14,57),(15,2)] true,16,208,[.int .i64 0,.str [],.int .i64 0,.int .i64 0,.int .i64 0,.int .i64 0,.str [],.str [],.str [],.int .i64 0,.nils,.str [],.str [],.int .i64 0,.nils,.int .i64 0],true⟩ /\
 tget G 91=some ⟨.struct [(0,2),(1,2),(2,2),(3,2),(4,59)] true,20,240,[.int .i64 0,.int .i64 0,.int .i64 0,.int .i64 0,.int .i64 0,.str [],.int .i64 0,.int .i64 0,.int .i64 0,.int .i64 0,.str [],.str [],.str [],.int .i64 0,.nils,.str [],.str [],.int .i64 0,.nils,.int .i64 0],true⟩ /\
 tget G 109=some ⟨.slice 9,1,24,[.nils],true⟩ /\
 tget G 123=some ⟨.array 7 4,7,7,[.bool false,.bool false,.bool false,.bool false,.bool false,.bool false,.bool false],true⟩ /\
 tget G 135=some ⟨.struct [(0,2),(1,2),(2,9)] true,3,32,[.int .i64 0,.int .i64 0,.str []],true⟩ /\
 tget G 145=some ⟨.int .u64,1,8,[.int .u64 0],true⟩ /\
 tget G 147=some ⟨.struct [(0,22),(1,3),(2,145)] true,3,40,[.nils,.int .i64 0,.int .u64 0],true⟩ /\
 tget G 269=some ⟨.array 26 9,26,416,[.str [],.str [],.str [],.str [],.str [],.str [],.str [],.str [],.str [],.str [],.str [],.str [],.str [],.str [],.str [],.str [],.str [],.str [],.str [],.str [],.str [],.str [],.str [],.str [],.str [],.str []],true⟩ /\
 tget G 281=some ⟨.array 12 2,12,96,[.int .i64 0,.int .i64 0,.int .i64 0,.int .i64 0,.int .i64 0,.int .i64 0,.int .i64 0,.int .i64 0,.int .i64 0,.int .i64 0,.int .i64 0,.int .i64 0],true⟩:=by
 and_intros<;>rfl
theorem mixed:Tryz.prog.follows .mixedOrders=true:=by kernel_rfl
def yt (v:Int):List AV:=[.int .i64 v]
def y5b : List AV -> Int
 | [c]=>rdI c
 | _=>default
def eIu8 (v:Int):List AV:=[.int .u8 v]
def dIu8 : List AV -> Int
 | [c]=>rdI c
 | _=>default
def eS (v:(List UInt8)):List AV:=[.str v]
def dS : List AV -> (List UInt8)
 | [c]=>rdS c
 | _=>default
structure Point where
 X:Int
 Y:Int
 deriving Inhabited,DecidableEq
def ygd (v:Point):List AV:=[.int .i64 v.X,.int .i64 v.Y]
def ydf : List AV -> Point
 | c0::c1::_=>⟨rdI c0,rdI c1⟩
 | _=>default
theorem y5q (v:Point):Point.mk v.X v.Y=v:=rfl
structure Mark where
 Kind:Int
 Colors:(List UInt8)
 Shape:(List UInt8)
 Topmark:(List UInt8)
 deriving Inhabited,DecidableEq
def ykd (v:Mark):List AV:=[.int .i64 v.Kind,.str v.Colors,.str v.Shape,.str v.Topmark]
def ype : List AV -> Mark
 | c0::c1::c2::c3::_=>⟨rdI c0,rdS c1,rdS c2,rdS c3⟩
 | _=>default
theorem y4u (v:Mark):Mark.mk v.Kind v.Colors v.Shape v.Topmark=v:=rfl
structure Character where
 Kind:Int
 Group:(List Int)
 Letter:(List UInt8)
 Colors:(List UInt8)
 Period:Int
 deriving Inhabited,DecidableEq
def yi (v:Character):List AV:=[.int .i64 v.Kind,encL 1 yt v.Group,.str v.Letter,.str v.Colors,.int .i64 v.Period]
def ymb (v:Character):List AV:=[.int .i64 v.Kind,ownL 2 1 yt v.Group,.str v.Letter,.str v.Colors,.int .i64 v.Period]
def yc : List AV -> Character
 | c0::c1::c2::c3::c4::_=>⟨rdI c0,rdL y5b c1,rdS c2,rdS c3,rdI c4⟩
 | _=>default
theorem yki (v:Character):Character.mk v.Kind v.Group v.Letter v.Colors v.Period=v:=rfl
structure Sector where
 From:Int
 To:Int
 Color:(List UInt8)
 deriving Inhabited,DecidableEq
def ym (v:Sector):List AV:=[.int .i64 v.From,.int .i64 v.To,.str v.Color]
def yq : List AV -> Sector
 | c0::c1::c2::_=>⟨rdI c0,rdI c1,rdS c2⟩
 | _=>default
theorem yan (v:Sector):Sector.mk v.From v.To v.Color=v:=rfl
structure Aid where
 Number:Int
 Name:(List UInt8)
 At:Point
 Height:Int
 Mark:Mark
 Light:Character
 Sectors:(List Sector)
 Intensity:Int
 deriving Inhabited,DecidableEq
def eAid (v:Aid):List AV:=[.int .i64 v.Number,.str v.Name,.int .i64 v.At.X,.int .i64 v.At.Y,.int .i64 v.Height,.int .i64 v.Mark.Kind,.str v.Mark.Colors,.str v.Mark.Shape,.str v.Mark.Topmark,.int .i64 v.Light.Kind,encL 1 yt v.Light.Group,.str v.Light.Letter,.str v.Light.Colors,.int .i64 v.Light.Period,encL 3 ym v.Sectors,.int .i64 v.Intensity]
def ybi (v:Aid):List AV:=[.int .i64 v.Number,.str v.Name,.int .i64 v.At.X,.int .i64 v.At.Y,.int .i64 v.Height,.int .i64 v.Mark.Kind,.str v.Mark.Colors,.str v.Mark.Shape,.str v.Mark.Topmark,.int .i64 v.Light.Kind,ownL 2 1 yt v.Light.Group,.str v.Light.Letter,.str v.Light.Colors,.int .i64 v.Light.Period,ownL 135 3 ym v.Sectors,.int .i64 v.Intensity]
def dAid : List AV -> Aid
 | c0::c1::c2::c3::c4::c5::c6::c7::c8::c9::c10::c11::c12::c13::c14::c15::_=>⟨rdI c0,rdS c1,⟨rdI c2,rdI c3⟩,rdI c4,⟨rdI c5,rdS c6,rdS c7,rdS c8⟩,⟨rdI c9,rdL y5b c10,rdS c11,rdS c12,rdI c13⟩,rdL yq c14,rdI c15⟩
 | _=>default
theorem y2z (v:Aid):Aid.mk v.Number v.Name v.At v.Height v.Mark v.Light v.Sectors v.Intensity=v:=rfl
structure Edition where
 Number:Int
 Day:Int
 Aids:(List Aid)
 deriving Inhabited,DecidableEq
def yid (v:Edition):List AV:=[.int .i64 v.Number,.int .i64 v.Day,encL 16 eAid v.Aids]
def yec (v:Edition):List AV:=[.int .i64 v.Number,.int .i64 v.Day,ownL 59 16 ybi v.Aids]
def y6d : List AV -> Edition
 | c0::c1::c2::_=>⟨rdI c0,rdI c1,rdL dAid c2⟩
 | _=>default
theorem ykk (v:Edition):Edition.mk v.Number v.Day v.Aids=v:=rfl
structure l00Src where
 code:(List Int)
 at_:Int
 seed:Int
 deriving Inhabited,DecidableEq
def yxy (v:l00Src):List AV:=[encL 1 eIu8 v.code,.int .i64 v.at_,.int .u64 v.seed]
def y8u (v:l00Src):List AV:=[ownL 5 1 eIu8 v.code,.int .i64 v.at_,.int .u64 v.seed]
def y9x : List AV -> l00Src
 | c0::c1::c2::_=>⟨rdL dIu8 c0,rdI c1,rdI c2⟩
 | _=>default
theorem ykn (v:l00Src):l00Src.mk v.code v.at_ v.seed=v:=rfl
structure Notice where
 Number:Int
 Day:Int
 Kind:Int
 Target:Int
 Aid:Aid
 deriving Inhabited,DecidableEq
def yxz (v:Notice):List AV:=[.int .i64 v.Number,.int .i64 v.Day,.int .i64 v.Kind,.int .i64 v.Target,.int .i64 v.Aid.Number,.str v.Aid.Name,.int .i64 v.Aid.At.X,.int .i64 v.Aid.At.Y,.int .i64 v.Aid.Height,.int .i64 v.Aid.Mark.Kind,.str v.Aid.Mark.Colors,.str v.Aid.Mark.Shape,.str v.Aid.Mark.Topmark,.int .i64 v.Aid.Light.Kind,encL 1 yt v.Aid.Light.Group,.str v.Aid.Light.Letter,.str v.Aid.Light.Colors,.int .i64 v.Aid.Light.Period,encL 3 ym v.Aid.Sectors,.int .i64 v.Aid.Intensity]
def ybw (v:Notice):List AV:=[.int .i64 v.Number,.int .i64 v.Day,.int .i64 v.Kind,.int .i64 v.Target,.int .i64 v.Aid.Number,.str v.Aid.Name,.int .i64 v.Aid.At.X,.int .i64 v.Aid.At.Y,.int .i64 v.Aid.Height,.int .i64 v.Aid.Mark.Kind,.str v.Aid.Mark.Colors,.str v.Aid.Mark.Shape,.str v.Aid.Mark.Topmark,.int .i64 v.Aid.Light.Kind,ownL 2 1 yt v.Aid.Light.Group,.str v.Aid.Light.Letter,.str v.Aid.Light.Colors,.int .i64 v.Aid.Light.Period,ownL 135 3 ym v.Aid.Sectors,.int .i64 v.Aid.Intensity]
def yfd : List AV -> Notice
 | c0::c1::c2::c3::c4::c5::c6::c7::c8::c9::c10::c11::c12::c13::c14::c15::c16::c17::c18::c19::_=>⟨rdI c0,rdI c1,rdI c2,rdI c3,⟨rdI c4,rdS c5,⟨rdI c6,rdI c7⟩,rdI c8,⟨rdI c9,rdS c10,rdS c11,rdS c12⟩,⟨rdI c13,rdL y5b c14,rdS c15,rdS c16,rdI c17⟩,rdL yq c18,rdI c19⟩⟩
 | _=>default
theorem ynn (v:Notice):Notice.mk v.Number v.Day v.Kind v.Target v.Aid=v:=rfl
theorem yie (l:List Int):decL y5b l.length (fun i=>[.int .i64 (l.getD i default)])=l:=yac l
theorem y6p (l:List Int) (lo n:Nat):decL y5b n (fun i=>[.int .i64 (l.getD (lo+i) default)])=subL l lo n:=rfl
theorem y5r (l:List Int) (n:Nat):decL y5b n (fun i=>[.int .i64 (l.getD i default)])=subL l 0 n:=by simp only[subL,Nat.zero_add];rfl
theorem y7f (l:List Int):decL dIu8 l.length (fun i=>[.int .u8 (l.getD i default)])=l:=yac l
theorem yfw (l:List Int) (lo n:Nat):decL dIu8 n (fun i=>[.int .u8 (l.getD (lo+i) default)])=subL l lo n:=rfl
theorem y6v (l:List Int) (n:Nat):decL dIu8 n (fun i=>[.int .u8 (l.getD i default)])=subL l 0 n:=by simp only[subL,Nat.zero_add];rfl
theorem y2m (l:List (List UInt8)):decL dS l.length (fun i=>[.str (l.getD i default)])=l:=yac l
theorem y05 (l:List (List UInt8)) (lo n:Nat):decL dS n (fun i=>[.str (l.getD (lo+i) default)])=subL l lo n:=rfl
theorem yw5 (l:List (List UInt8)) (n:Nat):decL dS n (fun i=>[.str (l.getD i default)])=subL l 0 n:=by simp only[subL,Nat.zero_add];rfl
theorem ywc (l:List Sector):decL yq l.length (fun i=>[.int .i64 ((l.getD i default).From),.int .i64 ((l.getD i default).To),.str ((l.getD i default).Color)])=l:=yac l
theorem ynk (l:List Sector) (lo n:Nat):decL yq n (fun i=>[.int .i64 ((l.getD (lo+i) default).From),.int .i64 ((l.getD (lo+i) default).To),.str ((l.getD (lo+i) default).Color)])=subL l lo n:=rfl
theorem y6k (l:List Sector) (n:Nat):decL yq n (fun i=>[.int .i64 ((l.getD i default).From),.int .i64 ((l.getD i default).To),.str ((l.getD i default).Color)])=subL l 0 n:=by simp only[subL,Nat.zero_add];rfl
theorem yft (v:Aid):dAid [.int .i64 v.Number,.str v.Name,.int .i64 v.At.X,.int .i64 v.At.Y,.int .i64 v.Height,.int .i64 v.Mark.Kind,.str v.Mark.Colors,.str v.Mark.Shape,.str v.Mark.Topmark,.int .i64 v.Light.Kind,.sl none 1 v.Light.Group.length (fun j=>[.int .i64 (v.Light.Group.getD j default)]),.str v.Light.Letter,.str v.Light.Colors,.int .i64 v.Light.Period,.sl none 3 v.Sectors.length (fun j=>[.int .i64 ((v.Sectors.getD j default).From),.int .i64 ((v.Sectors.getD j default).To),.str ((v.Sectors.getD j default).Color)]),.int .i64 v.Intensity]=v:=by simp only[dAid,rdI,rdB,rdS,rdL,yie,y7f,y2m,ywc]
theorem y3h (l:List Aid):decL dAid l.length (fun i=>[.int .i64 ((l.getD i default).Number),.str ((l.getD i default).Name),.int .i64 (((l.getD i default).At).X),.int .i64 (((l.getD i default).At).Y),.int .i64 ((l.getD i default).Height),.int .i64 (((l.getD i default).Mark).Kind),.str (((l.getD i default).Mark).Colors),.str (((l.getD i default).Mark).Shape),.str (((l.getD i default).Mark).Topmark),.int .i64 (((l.getD i default).Light).Kind),.sl none 1 (((l.getD i default).Light).Group).length (fun j=>[.int .i64 ((((l.getD i default).Light).Group).getD j default)]),.str (((l.getD i default).Light).Letter),.str (((l.getD i default).Light).Colors),.int .i64 (((l.getD i default).Light).Period),.sl none 3 ((l.getD i default).Sectors).length (fun j=>[.int .i64 ((((l.getD i default).Sectors).getD j default).From),.int .i64 ((((l.getD i default).Sectors).getD j default).To),.str ((((l.getD i default).Sectors).getD j default).Color)]),.int .i64 ((l.getD i default).Intensity)])=l:=(List.map_congr_left fun i _=>yft (l.getD i default)).trans (yac l)
theorem y0u (l:List Aid) (lo n:Nat):decL dAid n (fun i=>[.int .i64 ((l.getD (lo+i) default).Number),.str ((l.getD (lo+i) default).Name),.int .i64 (((l.getD (lo+i) default).At).X),.int .i64 (((l.getD (lo+i) default).At).Y),.int .i64 ((l.getD (lo+i) default).Height),.int .i64 (((l.getD (lo+i) default).Mark).Kind),.str (((l.getD (lo+i) default).Mark).Colors),.str (((l.getD (lo+i) default).Mark).Shape),.str (((l.getD (lo+i) default).Mark).Topmark),.int .i64 (((l.getD (lo+i) default).Light).Kind),.sl none 1 (((l.getD (lo+i) default).Light).Group).length (fun j=>[.int .i64 ((((l.getD (lo+i) default).Light).Group).getD j default)]),.str (((l.getD (lo+i) default).Light).Letter),.str (((l.getD (lo+i) default).Light).Colors),.int .i64 (((l.getD (lo+i) default).Light).Period),.sl none 3 ((l.getD (lo+i) default).Sectors).length (fun j=>[.int .i64 ((((l.getD (lo+i) default).Sectors).getD j default).From),.int .i64 ((((l.getD (lo+i) default).Sectors).getD j default).To),.str ((((l.getD (lo+i) default).Sectors).getD j default).Color)]),.int .i64 ((l.getD (lo+i) default).Intensity)])=subL l lo n:=List.map_congr_left fun i _=>yft (l.getD (lo+i) default)
theorem ywu (l:List Aid) (n:Nat):decL dAid n (fun i=>[.int .i64 ((l.getD i default).Number),.str ((l.getD i default).Name),.int .i64 (((l.getD i default).At).X),.int .i64 (((l.getD i default).At).Y),.int .i64 ((l.getD i default).Height),.int .i64 (((l.getD i default).Mark).Kind),.str (((l.getD i default).Mark).Colors),.str (((l.getD i default).Mark).Shape),.str (((l.getD i default).Mark).Topmark),.int .i64 (((l.getD i default).Light).Kind),.sl none 1 (((l.getD i default).Light).Group).length (fun j=>[.int .i64 ((((l.getD i default).Light).Group).getD j default)]),.str (((l.getD i default).Light).Letter),.str (((l.getD i default).Light).Colors),.int .i64 (((l.getD i default).Light).Period),.sl none 3 ((l.getD i default).Sectors).length (fun j=>[.int .i64 ((((l.getD i default).Sectors).getD j default).From),.int .i64 ((((l.getD i default).Sectors).getD j default).To),.str ((((l.getD i default).Sectors).getD j default).Color)]),.int .i64 ((l.getD i default).Intensity)])=subL l 0 n:=by simp only[subL,Nat.zero_add];exact List.map_congr_left fun i _=>yft (l.getD i default)
theorem y5n (v:Aid):dAid [.int .i64 v.Number,.str v.Name,.int .i64 v.At.X,.int .i64 v.At.Y,.int .i64 v.Height,.int .i64 v.Mark.Kind,.str v.Mark.Colors,.str v.Mark.Shape,.str v.Mark.Topmark,.int .i64 v.Light.Kind,.sl (some 2) 1 v.Light.Group.length (fun j=>[.int .i64 (v.Light.Group.getD j default)]),.str v.Light.Letter,.str v.Light.Colors,.int .i64 v.Light.Period,.sl (some 135) 3 v.Sectors.length (fun j=>[.int .i64 ((v.Sectors.getD j default).From),.int .i64 ((v.Sectors.getD j default).To),.str ((v.Sectors.getD j default).Color)]),.int .i64 v.Intensity]=v:=by simp only[dAid,rdI,rdB,rdS,rdL,yie,y7f,y2m,ywc,y3h]
theorem yph (l:List Aid):decL dAid l.length (fun i=>[.int .i64 ((l.getD i default).Number),.str ((l.getD i default).Name),.int .i64 (((l.getD i default).At).X),.int .i64 (((l.getD i default).At).Y),.int .i64 ((l.getD i default).Height),.int .i64 (((l.getD i default).Mark).Kind),.str (((l.getD i default).Mark).Colors),.str (((l.getD i default).Mark).Shape),.str (((l.getD i default).Mark).Topmark),.int .i64 (((l.getD i default).Light).Kind),.sl (some 2) 1 (((l.getD i default).Light).Group).length (fun j=>[.int .i64 ((((l.getD i default).Light).Group).getD j default)]),.str (((l.getD i default).Light).Letter),.str (((l.getD i default).Light).Colors),.int .i64 (((l.getD i default).Light).Period),.sl (some 135) 3 ((l.getD i default).Sectors).length (fun j=>[.int .i64 ((((l.getD i default).Sectors).getD j default).From),.int .i64 ((((l.getD i default).Sectors).getD j default).To),.str ((((l.getD i default).Sectors).getD j default).Color)]),.int .i64 ((l.getD i default).Intensity)])=l:=(List.map_congr_left fun i _=>y5n (l.getD i default)).trans (yac l)
theorem yyr (l:List Aid) (lo n:Nat):decL dAid n (fun i=>[.int .i64 ((l.getD (lo+i) default).Number),.str ((l.getD (lo+i) default).Name),.int .i64 (((l.getD (lo+i) default).At).X),.int .i64 (((l.getD (lo+i) default).At).Y),.int .i64 ((l.getD (lo+i) default).Height),.int .i64 (((l.getD (lo+i) default).Mark).Kind),.str (((l.getD (lo+i) default).Mark).Colors),.str (((l.getD (lo+i) default).Mark).Shape),.str (((l.getD (lo+i) default).Mark).Topmark),.int .i64 (((l.getD (lo+i) default).Light).Kind),.sl (some 2) 1 (((l.getD (lo+i) default).Light).Group).length (fun j=>[.int .i64 ((((l.getD (lo+i) default).Light).Group).getD j default)]),.str (((l.getD (lo+i) default).Light).Letter),.str (((l.getD (lo+i) default).Light).Colors),.int .i64 (((l.getD (lo+i) default).Light).Period),.sl (some 135) 3 ((l.getD (lo+i) default).Sectors).length (fun j=>[.int .i64 ((((l.getD (lo+i) default).Sectors).getD j default).From),.int .i64 ((((l.getD (lo+i) default).Sectors).getD j default).To),.str ((((l.getD (lo+i) default).Sectors).getD j default).Color)]),.int .i64 ((l.getD (lo+i) default).Intensity)])=subL l lo n:=List.map_congr_left fun i _=>y5n (l.getD (lo+i) default)
theorem ylq (l:List Aid) (n:Nat):decL dAid n (fun i=>[.int .i64 ((l.getD i default).Number),.str ((l.getD i default).Name),.int .i64 (((l.getD i default).At).X),.int .i64 (((l.getD i default).At).Y),.int .i64 ((l.getD i default).Height),.int .i64 (((l.getD i default).Mark).Kind),.str (((l.getD i default).Mark).Colors),.str (((l.getD i default).Mark).Shape),.str (((l.getD i default).Mark).Topmark),.int .i64 (((l.getD i default).Light).Kind),.sl (some 2) 1 (((l.getD i default).Light).Group).length (fun j=>[.int .i64 ((((l.getD i default).Light).Group).getD j default)]),.str (((l.getD i default).Light).Letter),.str (((l.getD i default).Light).Colors),.int .i64 (((l.getD i default).Light).Period),.sl (some 135) 3 ((l.getD i default).Sectors).length (fun j=>[.int .i64 ((((l.getD i default).Sectors).getD j default).From),.int .i64 ((((l.getD i default).Sectors).getD j default).To),.str ((((l.getD i default).Sectors).getD j default).Color)]),.int .i64 ((l.getD i default).Intensity)])=subL l 0 n:=by simp only[subL,Nat.zero_add];exact List.map_congr_left fun i _=>y5n (l.getD i default)
theorem ysi (v:Notice):yfd [.int .i64 v.Number,.int .i64 v.Day,.int .i64 v.Kind,.int .i64 v.Target,.int .i64 v.Aid.Number,.str v.Aid.Name,.int .i64 v.Aid.At.X,.int .i64 v.Aid.At.Y,.int .i64 v.Aid.Height,.int .i64 v.Aid.Mark.Kind,.str v.Aid.Mark.Colors,.str v.Aid.Mark.Shape,.str v.Aid.Mark.Topmark,.int .i64 v.Aid.Light.Kind,.sl none 1 v.Aid.Light.Group.length (fun j=>[.int .i64 (v.Aid.Light.Group.getD j default)]),.str v.Aid.Light.Letter,.str v.Aid.Light.Colors,.int .i64 v.Aid.Light.Period,.sl none 3 v.Aid.Sectors.length (fun j=>[.int .i64 ((v.Aid.Sectors.getD j default).From),.int .i64 ((v.Aid.Sectors.getD j default).To),.str ((v.Aid.Sectors.getD j default).Color)]),.int .i64 v.Aid.Intensity]=v:=by simp only[yfd,rdI,rdB,rdS,rdL,yie,y7f,y2m,ywc,y3h,yph]
theorem y9g (l:List Notice):decL yfd l.length (fun i=>[.int .i64 ((l.getD i default).Number),.int .i64 ((l.getD i default).Day),.int .i64 ((l.getD i default).Kind),.int .i64 ((l.getD i default).Target),.int .i64 (((l.getD i default).Aid).Number),.str (((l.getD i default).Aid).Name),.int .i64 ((((l.getD i default).Aid).At).X),.int .i64 ((((l.getD i default).Aid).At).Y),.int .i64 (((l.getD i default).Aid).Height),.int .i64 ((((l.getD i default).Aid).Mark).Kind),.str ((((l.getD i default).Aid).Mark).Colors),.str ((((l.getD i default).Aid).Mark).Shape),.str ((((l.getD i default).Aid).Mark).Topmark),.int .i64 ((((l.getD i default).Aid).Light).Kind),.sl none 1 ((((l.getD i default).Aid).Light).Group).length (fun j=>[.int .i64 (((((l.getD i default).Aid).Light).Group).getD j default)]),.str ((((l.getD i default).Aid).Light).Letter),.str ((((l.getD i default).Aid).Light).Colors),.int .i64 ((((l.getD i default).Aid).Light).Period),.sl none 3 (((l.getD i default).Aid).Sectors).length (fun j=>[.int .i64 (((((l.getD i default).Aid).Sectors).getD j default).From),.int .i64 (((((l.getD i default).Aid).Sectors).getD j default).To),.str (((((l.getD i default).Aid).Sectors).getD j default).Color)]),.int .i64 (((l.getD i default).Aid).Intensity)])=l:=(List.map_congr_left fun i _=>ysi (l.getD i default)).trans (yac l)
theorem yll (l:List Notice) (lo n:Nat):decL yfd n (fun i=>[.int .i64 ((l.getD (lo+i) default).Number),.int .i64 ((l.getD (lo+i) default).Day),.int .i64 ((l.getD (lo+i) default).Kind),.int .i64 ((l.getD (lo+i) default).Target),.int .i64 (((l.getD (lo+i) default).Aid).Number),.str (((l.getD (lo+i) default).Aid).Name),.int .i64 ((((l.getD (lo+i) default).Aid).At).X),.int .i64 ((((l.getD (lo+i) default).Aid).At).Y),.int .i64 (((l.getD (lo+i) default).Aid).Height),.int .i64 ((((l.getD (lo+i) default).Aid).Mark).Kind),.str ((((l.getD (lo+i) default).Aid).Mark).Colors),.str ((((l.getD (lo+i) default).Aid).Mark).Shape),.str ((((l.getD (lo+i) default).Aid).Mark).Topmark),.int .i64 ((((l.getD (lo+i) default).Aid).Light).Kind),.sl none 1 ((((l.getD (lo+i) default).Aid).Light).Group).length (fun j=>[.int .i64 (((((l.getD (lo+i) default).Aid).Light).Group).getD j default)]),.str ((((l.getD (lo+i) default).Aid).Light).Letter),.str ((((l.getD (lo+i) default).Aid).Light).Colors),.int .i64 ((((l.getD (lo+i) default).Aid).Light).Period),.sl none 3 (((l.getD (lo+i) default).Aid).Sectors).length (fun j=>[.int .i64 (((((l.getD (lo+i) default).Aid).Sectors).getD j default).From),.int .i64 (((((l.getD (lo+i) default).Aid).Sectors).getD j default).To),.str (((((l.getD (lo+i) default).Aid).Sectors).getD j default).Color)]),.int .i64 (((l.getD (lo+i) default).Aid).Intensity)])=subL l lo n:=List.map_congr_left fun i _=>ysi (l.getD (lo+i) default)
theorem yel (l:List Notice) (n:Nat):decL yfd n (fun i=>[.int .i64 ((l.getD i default).Number),.int .i64 ((l.getD i default).Day),.int .i64 ((l.getD i default).Kind),.int .i64 ((l.getD i default).Target),.int .i64 (((l.getD i default).Aid).Number),.str (((l.getD i default).Aid).Name),.int .i64 ((((l.getD i default).Aid).At).X),.int .i64 ((((l.getD i default).Aid).At).Y),.int .i64 (((l.getD i default).Aid).Height),.int .i64 ((((l.getD i default).Aid).Mark).Kind),.str ((((l.getD i default).Aid).Mark).Colors),.str ((((l.getD i default).Aid).Mark).Shape),.str ((((l.getD i default).Aid).Mark).Topmark),.int .i64 ((((l.getD i default).Aid).Light).Kind),.sl none 1 ((((l.getD i default).Aid).Light).Group).length (fun j=>[.int .i64 (((((l.getD i default).Aid).Light).Group).getD j default)]),.str ((((l.getD i default).Aid).Light).Letter),.str ((((l.getD i default).Aid).Light).Colors),.int .i64 ((((l.getD i default).Aid).Light).Period),.sl none 3 (((l.getD i default).Aid).Sectors).length (fun j=>[.int .i64 (((((l.getD i default).Aid).Sectors).getD j default).From),.int .i64 (((((l.getD i default).Aid).Sectors).getD j default).To),.str (((((l.getD i default).Aid).Sectors).getD j default).Color)]),.int .i64 (((l.getD i default).Aid).Intensity)])=subL l 0 n:=by simp only[subL,Nat.zero_add];exact List.map_congr_left fun i _=>ysi (l.getD i default)
theorem yxg (v:Notice):yfd [.int .i64 v.Number,.int .i64 v.Day,.int .i64 v.Kind,.int .i64 v.Target,.int .i64 v.Aid.Number,.str v.Aid.Name,.int .i64 v.Aid.At.X,.int .i64 v.Aid.At.Y,.int .i64 v.Aid.Height,.int .i64 v.Aid.Mark.Kind,.str v.Aid.Mark.Colors,.str v.Aid.Mark.Shape,.str v.Aid.Mark.Topmark,.int .i64 v.Aid.Light.Kind,.sl (some 2) 1 v.Aid.Light.Group.length (fun j=>[.int .i64 (v.Aid.Light.Group.getD j default)]),.str v.Aid.Light.Letter,.str v.Aid.Light.Colors,.int .i64 v.Aid.Light.Period,.sl (some 135) 3 v.Aid.Sectors.length (fun j=>[.int .i64 ((v.Aid.Sectors.getD j default).From),.int .i64 ((v.Aid.Sectors.getD j default).To),.str ((v.Aid.Sectors.getD j default).Color)]),.int .i64 v.Aid.Intensity]=v:=by simp only[yfd,rdI,rdB,rdS,rdL,yie,y7f,y2m,ywc,y3h,yph,y9g]
theorem yfj (l:List Notice):decL yfd l.length (fun i=>[.int .i64 ((l.getD i default).Number),.int .i64 ((l.getD i default).Day),.int .i64 ((l.getD i default).Kind),.int .i64 ((l.getD i default).Target),.int .i64 (((l.getD i default).Aid).Number),.str (((l.getD i default).Aid).Name),.int .i64 ((((l.getD i default).Aid).At).X),.int .i64 ((((l.getD i default).Aid).At).Y),.int .i64 (((l.getD i default).Aid).Height),.int .i64 ((((l.getD i default).Aid).Mark).Kind),.str ((((l.getD i default).Aid).Mark).Colors),.str ((((l.getD i default).Aid).Mark).Shape),.str ((((l.getD i default).Aid).Mark).Topmark),.int .i64 ((((l.getD i default).Aid).Light).Kind),.sl (some 2) 1 ((((l.getD i default).Aid).Light).Group).length (fun j=>[.int .i64 (((((l.getD i default).Aid).Light).Group).getD j default)]),.str ((((l.getD i default).Aid).Light).Letter),.str ((((l.getD i default).Aid).Light).Colors),.int .i64 ((((l.getD i default).Aid).Light).Period),.sl (some 135) 3 (((l.getD i default).Aid).Sectors).length (fun j=>[.int .i64 (((((l.getD i default).Aid).Sectors).getD j default).From),.int .i64 (((((l.getD i default).Aid).Sectors).getD j default).To),.str (((((l.getD i default).Aid).Sectors).getD j default).Color)]),.int .i64 (((l.getD i default).Aid).Intensity)])=l:=(List.map_congr_left fun i _=>yxg (l.getD i default)).trans (yac l)
theorem ynj (l:List Notice) (lo n:Nat):decL yfd n (fun i=>[.int .i64 ((l.getD (lo+i) default).Number),.int .i64 ((l.getD (lo+i) default).Day),.int .i64 ((l.getD (lo+i) default).Kind),.int .i64 ((l.getD (lo+i) default).Target),.int .i64 (((l.getD (lo+i) default).Aid).Number),.str (((l.getD (lo+i) default).Aid).Name),.int .i64 ((((l.getD (lo+i) default).Aid).At).X),.int .i64 ((((l.getD (lo+i) default).Aid).At).Y),.int .i64 (((l.getD (lo+i) default).Aid).Height),.int .i64 ((((l.getD (lo+i) default).Aid).Mark).Kind),.str ((((l.getD (lo+i) default).Aid).Mark).Colors),.str ((((l.getD (lo+i) default).Aid).Mark).Shape),.str ((((l.getD (lo+i) default).Aid).Mark).Topmark),.int .i64 ((((l.getD (lo+i) default).Aid).Light).Kind),.sl (some 2) 1 ((((l.getD (lo+i) default).Aid).Light).Group).length (fun j=>[.int .i64 (((((l.getD (lo+i) default).Aid).Light).Group).getD j default)]),.str ((((l.getD (lo+i) default).Aid).Light).Letter),.str ((((l.getD (lo+i) default).Aid).Light).Colors),.int .i64 ((((l.getD (lo+i) default).Aid).Light).Period),.sl (some 135) 3 (((l.getD (lo+i) default).Aid).Sectors).length (fun j=>[.int .i64 (((((l.getD (lo+i) default).Aid).Sectors).getD j default).From),.int .i64 (((((l.getD (lo+i) default).Aid).Sectors).getD j default).To),.str (((((l.getD (lo+i) default).Aid).Sectors).getD j default).Color)]),.int .i64 (((l.getD (lo+i) default).Aid).Intensity)])=subL l lo n:=List.map_congr_left fun i _=>yxg (l.getD (lo+i) default)
theorem yqj (l:List Notice) (n:Nat):decL yfd n (fun i=>[.int .i64 ((l.getD i default).Number),.int .i64 ((l.getD i default).Day),.int .i64 ((l.getD i default).Kind),.int .i64 ((l.getD i default).Target),.int .i64 (((l.getD i default).Aid).Number),.str (((l.getD i default).Aid).Name),.int .i64 ((((l.getD i default).Aid).At).X),.int .i64 ((((l.getD i default).Aid).At).Y),.int .i64 (((l.getD i default).Aid).Height),.int .i64 ((((l.getD i default).Aid).Mark).Kind),.str ((((l.getD i default).Aid).Mark).Colors),.str ((((l.getD i default).Aid).Mark).Shape),.str ((((l.getD i default).Aid).Mark).Topmark),.int .i64 ((((l.getD i default).Aid).Light).Kind),.sl (some 2) 1 ((((l.getD i default).Aid).Light).Group).length (fun j=>[.int .i64 (((((l.getD i default).Aid).Light).Group).getD j default)]),.str ((((l.getD i default).Aid).Light).Letter),.str ((((l.getD i default).Aid).Light).Colors),.int .i64 ((((l.getD i default).Aid).Light).Period),.sl (some 135) 3 (((l.getD i default).Aid).Sectors).length (fun j=>[.int .i64 (((((l.getD i default).Aid).Sectors).getD j default).From),.int .i64 (((((l.getD i default).Aid).Sectors).getD j default).To),.str (((((l.getD i default).Aid).Sectors).getD j default).Color)]),.int .i64 (((l.getD i default).Aid).Intensity)])=subL l 0 n:=by simp only[subL,Nat.zero_add];exact List.map_congr_left fun i _=>yxg (l.getD i default)
def bdS (v:List UInt8):Prop:=v.length<1099511627776
instance:DecidablePred bdS:=fun v=>inferInstanceAs (Decidable (v.length<1099511627776))
def bdMark (v:Mark):Prop:=bdS v.Colors/\bdS v.Shape/\bdS v.Topmark
instance:DecidablePred bdMark:=fun v=>by unfold bdMark;infer_instance
def bdLIi64 (v:(List Int)):Prop:=v.length<1099511627776
instance:DecidablePred bdLIi64:=fun v=>by unfold bdLIi64;infer_instance
def bdCharacter (v:Character):Prop:=bdLIi64 v.Group/\bdS v.Letter/\bdS v.Colors
instance:DecidablePred bdCharacter:=fun v=>by unfold bdCharacter;infer_instance
def bdSector (v:Sector):Prop:=bdS v.Color
instance:DecidablePred bdSector:=fun v=>by unfold bdSector;infer_instance
def bdLSector (v:(List Sector)):Prop:=v.length<1099511627776/\∀ x∈v,bdSector x
instance:DecidablePred bdLSector:=fun v=>by unfold bdLSector;infer_instance
def bdAid (v:Aid):Prop:=bdS v.Name/\bdMark v.Mark/\bdCharacter v.Light/\bdLSector v.Sectors
instance:DecidablePred bdAid:=fun v=>by unfold bdAid;infer_instance
def bdLAid (v:(List Aid)):Prop:=v.length<1099511627776/\∀ x∈v,bdAid x
instance:DecidablePred bdLAid:=fun v=>by unfold bdLAid;infer_instance
def bdEdition (v:Edition):Prop:=bdLAid v.Aids
instance:DecidablePred bdEdition:=fun v=>by unfold bdEdition;infer_instance
def bdLIu8 (v:(List Int)):Prop:=v.length<1099511627776
instance:DecidablePred bdLIu8:=fun v=>by unfold bdLIu8;infer_instance
def bdl00Src (v:l00Src):Prop:=bdLIu8 v.code
instance:DecidablePred bdl00Src:=fun v=>by unfold bdl00Src;infer_instance
def bdNotice (v:Notice):Prop:=bdAid v.Aid
instance:DecidablePred bdNotice:=fun v=>by unfold bdNotice;infer_instance
def bwS (v:List UInt8):Prop:=v.length<9223372036854775808
instance:DecidablePred bwS:=fun v=>inferInstanceAs (Decidable (v.length<9223372036854775808))
def bwMark (v:Mark):Prop:=bwS v.Colors/\bwS v.Shape/\bwS v.Topmark
instance:DecidablePred bwMark:=fun v=>by unfold bwMark;infer_instance
def bwLIi64 (v:(List Int)):Prop:=v.length<9223372036854775808
instance:DecidablePred bwLIi64:=fun v=>by unfold bwLIi64;infer_instance
def bwCharacter (v:Character):Prop:=bwLIi64 v.Group/\bwS v.Letter/\bwS v.Colors
instance:DecidablePred bwCharacter:=fun v=>by unfold bwCharacter;infer_instance
def bwSector (v:Sector):Prop:=bwS v.Color
instance:DecidablePred bwSector:=fun v=>by unfold bwSector;infer_instance
def bwLSector (v:(List Sector)):Prop:=v.length<9223372036854775808/\∀ x∈v,bwSector x
instance:DecidablePred bwLSector:=fun v=>by unfold bwLSector;infer_instance
def bwAid (v:Aid):Prop:=bwS v.Name/\bwMark v.Mark/\bwCharacter v.Light/\bwLSector v.Sectors
instance:DecidablePred bwAid:=fun v=>by unfold bwAid;infer_instance
def bwLAid (v:(List Aid)):Prop:=v.length<9223372036854775808/\∀ x∈v,bwAid x
instance:DecidablePred bwLAid:=fun v=>by unfold bwLAid;infer_instance
def bwEdition (v:Edition):Prop:=bwLAid v.Aids
instance:DecidablePred bwEdition:=fun v=>by unfold bwEdition;infer_instance
def bwLIu8 (v:(List Int)):Prop:=v.length<9223372036854775808
instance:DecidablePred bwLIu8:=fun v=>by unfold bwLIu8;infer_instance
def bwl00Src (v:l00Src):Prop:=bwLIu8 v.code
instance:DecidablePred bwl00Src:=fun v=>by unfold bwl00Src;infer_instance
def bwNotice (v:Notice):Prop:=bwAid v.Aid
instance:DecidablePred bwNotice:=fun v=>by unfold bwNotice;infer_instance
theorem y7x (v:List UInt8) (h:ydd [.str v]):bwS v:=Nat.lt_succ_of_le h.1
theorem ywd (v:Mark) (h:ydd (ykd v)):bwMark v:=⟨Nat.lt_succ_of_le h.2.1,Nat.lt_succ_of_le h.2.2.1,Nat.lt_succ_of_le h.2.2.2.1⟩
theorem yp (v:Character) (h:ydd (yi v)):bwCharacter v:=⟨Nat.lt_succ_of_le (yj h.2.1).1,Nat.lt_succ_of_le h.2.2.1,Nat.lt_succ_of_le h.2.2.2.1⟩
theorem yx (v:Sector) (h:ydd (ym v)):bwSector v:=Nat.lt_succ_of_le h.2.2.1
theorem ytc (v:Aid) (h:ydd (eAid v)):bwAid v:=⟨Nat.lt_succ_of_le h.2.1,⟨Nat.lt_succ_of_le h.2.2.2.2.2.2.1,Nat.lt_succ_of_le h.2.2.2.2.2.2.2.1,Nat.lt_succ_of_le h.2.2.2.2.2.2.2.2.1⟩,⟨Nat.lt_succ_of_le (yj h.2.2.2.2.2.2.2.2.2.2.1).1,Nat.lt_succ_of_le h.2.2.2.2.2.2.2.2.2.2.2.1,Nat.lt_succ_of_le h.2.2.2.2.2.2.2.2.2.2.2.2.1⟩,⟨Nat.lt_succ_of_le (yj h.2.2.2.2.2.2.2.2.2.2.2.2.2.2.1).1,fun y hy=>yx y ((yj h.2.2.2.2.2.2.2.2.2.2.2.2.2.2.1).2 y hy)⟩⟩
theorem ywr (v:Aid) (h:ydd (ybi v)):bwAid v:=⟨Nat.lt_succ_of_le h.2.1,⟨Nat.lt_succ_of_le h.2.2.2.2.2.2.1,Nat.lt_succ_of_le h.2.2.2.2.2.2.2.1,Nat.lt_succ_of_le h.2.2.2.2.2.2.2.2.1⟩,⟨Nat.lt_succ_of_le (ycc h.2.2.2.2.2.2.2.2.2.2.1).1,Nat.lt_succ_of_le h.2.2.2.2.2.2.2.2.2.2.2.1,Nat.lt_succ_of_le h.2.2.2.2.2.2.2.2.2.2.2.2.1⟩,⟨Nat.lt_succ_of_le (ycc h.2.2.2.2.2.2.2.2.2.2.2.2.2.2.1).1,fun y hy=>yx y ((ycc h.2.2.2.2.2.2.2.2.2.2.2.2.2.2.1).2 y hy)⟩⟩
theorem yxf (v:Edition) (h:ydd (yid v)):bwEdition v:=⟨Nat.lt_succ_of_le (yj h.2.2.1).1,fun y hy=>ytc y ((yj h.2.2.1).2 y hy)⟩
theorem ytn (v:Edition) (h:ydd (yec v)):bwEdition v:=⟨Nat.lt_succ_of_le (ycc h.2.2.1).1,fun y hy=>ywr y ((ycc h.2.2.1).2 y hy)⟩
theorem fl5 (p:Nat->Prop):(∀ i,i<5->p i)=(p 0/\p 1/\p 2/\p 3/\p 4):=by
 apply propext;refine⟨fun h=>⟨h 0 (by omega),h 1 (by omega),h 2 (by omega),h 3 (by omega),h 4 (by omega)⟩,fun h i hi => ?_⟩;obtain⟨h0,h1,h2,h3,h4⟩:=h;have hc:i=0\/i=1\/i=2\/i=3\/i=4:=by omega
 rcases hc with rfl|rfl|rfl|rfl|rfl<;>assumption
theorem yg5 {α:Type} (d:List AV->α) (f:Nat->List AV):decL d 5 f=[d (f 0),d (f 1),d (f 2),d (f 3),d (f 4)]:=rfl
theorem fl6 (p:Nat->Prop):(∀ i,i<6->p i)=(p 0/\p 1/\p 2/\p 3/\p 4/\p 5):=by
 apply propext;refine⟨fun h=>⟨h 0 (by omega),h 1 (by omega),h 2 (by omega),h 3 (by omega),h 4 (by omega),h 5 (by omega)⟩,fun h i hi => ?_⟩;obtain⟨h0,h1,h2,h3,h4,h5⟩:=h;have hc:i=0\/i=1\/i=2\/i=3\/i=4\/i=5:=by omega
 rcases hc with rfl|rfl|rfl|rfl|rfl|rfl<;>assumption
theorem y84 {α:Type} (d:List AV->α) (f:Nat->List AV):decL d 6 f=[d (f 0),d (f 1),d (f 2),d (f 3),d (f 4),d (f 5)]:=rfl
theorem fl7 (p:Nat->Prop):(∀ i,i<7->p i)=(p 0/\p 1/\p 2/\p 3/\p 4/\p 5/\p 6):=by
 apply propext;refine⟨fun h=>⟨h 0 (by omega),h 1 (by omega),h 2 (by omega),h 3 (by omega),h 4 (by omega),h 5 (by omega),h 6 (by omega)⟩,fun h i hi => ?_⟩;obtain⟨h0,h1,h2,h3,h4,h5,h6⟩:=h;have hc:i=0\/i=1\/i=2\/i=3\/i=4\/i=5\/i=6:=by omega
 rcases hc with rfl|rfl|rfl|rfl|rfl|rfl|rfl<;>assumption
theorem yk5 {α:Type} (d:List AV->α) (f:Nat->List AV):decL d 7 f=[d (f 0),d (f 1),d (f 2),d (f 3),d (f 4),d (f 5),d (f 6)]:=rfl
theorem fl8 (p:Nat->Prop):(∀ i,i<8->p i)=(p 0/\p 1/\p 2/\p 3/\p 4/\p 5/\p 6/\p 7):=by
 apply propext;refine⟨fun h=>⟨h 0 (by omega),h 1 (by omega),h 2 (by omega),h 3 (by omega),h 4 (by omega),h 5 (by omega),h 6 (by omega),h 7 (by omega)⟩,fun h i hi => ?_⟩;obtain⟨h0,h1,h2,h3,h4,h5,h6,h7⟩:=h;have hc:i=0\/i=1\/i=2\/i=3\/i=4\/i=5\/i=6\/i=7:=by omega
 rcases hc with rfl|rfl|rfl|rfl|rfl|rfl|rfl|rfl<;>assumption
theorem yv5 {α:Type} (d:List AV->α) (f:Nat->List AV):decL d 8 f=[d (f 0),d (f 1),d (f 2),d (f 3),d (f 4),d (f 5),d (f 6),d (f 7)]:=rfl
theorem yw8 {α:Type} [Inhabited α] (x0 x1:α):subL [x0,x1] 0 2=[x0,x1]:=rfl
theorem yb9 {α:Type} [Inhabited α] (x0 x1 x2:α):subL [x0,x1,x2] 0 3=[x0,x1,x2]:=rfl
theorem y07 {α:Type} [Inhabited α] (x0 x1 x2 x3:α):subL [x0,x1,x2,x3] 0 4=[x0,x1,x2,x3]:=rfl
theorem y18 {α:Type} [Inhabited α] (x0 x1 x2 x3 x4:α):subL [x0,x1,x2,x3,x4] 0 5=[x0,x1,x2,x3,x4]:=rfl
theorem yk8 {α:Type} [Inhabited α] (x0 x1 x2 x3 x4 x5:α):subL [x0,x1,x2,x3,x4,x5] 0 6=[x0,x1,x2,x3,x4,x5]:=rfl
theorem y47 {α:Type} [Inhabited α] (x0 x1 x2 x3 x4 x5 x6:α):subL [x0,x1,x2,x3,x4,x5,x6] 0 7=[x0,x1,x2,x3,x4,x5,x6]:=rfl
theorem y77 {α:Type} [Inhabited α] (x0 x1 x2 x3 x4 x5 x6 x7:α):subL [x0,x1,x2,x3,x4,x5,x6,x7] 0 8=[x0,x1,x2,x3,x4,x5,x6,x7]:=rfl
theorem yo8 {α:Type} [Inhabited α] (x0 x1 x2 x3 x4 x5 x6 x7 x8:α):subL [x0,x1,x2,x3,x4,x5,x6,x7,x8] 0 9=[x0,x1,x2,x3,x4,x5,x6,x7,x8]:=rfl
theorem ye5 {α:Type} [Inhabited α] (x0 x1 x2 x3 x4 x5 x6 x7 x8 x9:α):subL [x0,x1,x2,x3,x4,x5,x6,x7,x8,x9] 0 10=[x0,x1,x2,x3,x4,x5,x6,x7,x8,x9]:=rfl
theorem yt5 {α:Type} [Inhabited α] (x0 x1 x2 x3 x4 x5 x6 x7 x8 x9 x10:α):subL [x0,x1,x2,x3,x4,x5,x6,x7,x8,x9,x10] 0 11=[x0,x1,x2,x3,x4,x5,x6,x7,x8,x9,x10]:=rfl
theorem yn5 {α:Type} [Inhabited α] (x0 x1 x2 x3 x4 x5 x6 x7 x8 x9 x10 x11:α):subL [x0,x1,x2,x3,x4,x5,x6,x7,x8,x9,x10,x11] 0 12=[x0,x1,x2,x3,x4,x5,x6,x7,x8,x9,x10,x11]:=rfl
theorem yo5 {α:Type} [Inhabited α] (x0 x1 x2 x3 x4 x5 x6 x7 x8 x9 x10 x11 x12:α):subL [x0,x1,x2,x3,x4,x5,x6,x7,x8,x9,x10,x11,x12] 0 13=[x0,x1,x2,x3,x4,x5,x6,x7,x8,x9,x10,x11,x12]:=rfl
theorem y74 {α:Type} [Inhabited α] (x0 x1 x2 x3 x4 x5 x6 x7 x8 x9 x10 x11 x12 x13:α):subL [x0,x1,x2,x3,x4,x5,x6,x7,x8,x9,x10,x11,x12,x13] 0 14=[x0,x1,x2,x3,x4,x5,x6,x7,x8,x9,x10,x11,x12,x13]:=rfl
theorem sv:type_of% (
 And.intro @wGO.eq_def <|
 And.intro @wQ.eq_def <|
 And.intro @rdQ.eq_def <|
 And.intro @y2f <|
 And.intro @fl1 <|
 And.intro @fl2 <|
 And.intro @fl3 <|
 And.intro @fl4 <|
 And.intro @yx5 <|
 And.intro @yb5 <|
 And.intro @yc5 <|
 And.intro @yf5 <|
 And.intro @yi5 <|
 And.intro @fl5 <|
 And.intro @fl6 <|
 And.intro @fl7 <|
 And.intro @fl8 <|
 And.intro @yg5 <|
 And.intro @y84 <|
 And.intro @yk5 <|
 And.intro @yv5 <|
 And.intro @yw8 <|
 And.intro @yb9 <|
 And.intro @y07 <|
 And.intro @y18 <|
 And.intro @yk8 <|
 And.intro @y47 <|
 And.intro @y77 <|
 And.intro @yo8 <|
 And.intro @ye5 <|
 And.intro @yt5 <|
 And.intro @yn5 <|
 And.intro @yo5 <|
 And.intro @y74 <|
 And.intro @eAid.eq_1 <|
 And.intro @dAid.eq_1 <|
 And.intro @y2z <|
 And.intro @ybi.eq_1 <|
 And.intro @ygd.eq_1 <|
 And.intro @ydf.eq_1 <|
 And.intro @y5q <|
 And.intro @ykd.eq_1 <|
 And.intro @ype.eq_1 <|
 And.intro @y4u <|
 And.intro @yi.eq_1 <|
 And.intro @yc.eq_1 <|
 And.intro @yki <|
 And.intro @ymb.eq_1 <|
 And.intro @ym.eq_1 <|
 And.intro @yq.eq_1 <|
 And.intro @yan <|
 And.intro @yid.eq_1 <|
 And.intro @y6d.eq_1 <|
 And.intro @ykk <|
 And.intro @yec.eq_1 <|
 And.intro @yxy.eq_1 <|
 And.intro @y9x.eq_1 <|
 And.intro @ykn <|
 And.intro @y8u.eq_1 <|
 And.intro @yxz.eq_1 <|
 And.intro @yfd.eq_1 <|
 And.intro @ynn <|
 And.intro @ybw.eq_1 <|
 And.intro @yt.eq_1 <|
 And.intro @y5b.eq_1 <|
 And.intro @yie <|
 And.intro @y6p <|
 And.intro @y5r <|
 And.intro @eIu8.eq_1 <|
 And.intro @dIu8.eq_1 <|
 And.intro @y7f <|
 And.intro @yfw <|
 And.intro @y6v <|
 And.intro @eS.eq_1 <|
 And.intro @dS.eq_1 <|
 And.intro @y2m <|
 And.intro @y05 <|
 And.intro @yw5 <|
 And.intro @ywc <|
 And.intro @ynk <|
 And.intro @y6k <|
 And.intro @y3h <|
 And.intro @y0u <|
 And.intro @ywu <|
 And.intro @yph <|
 And.intro @yyr <|
 And.intro @ylq <|
 And.intro @y9g <|
 And.intro @yll <|
 And.intro @yel <|
 And.intro @yfj <|
 And.intro @ynj <| @yqj):=
 And.intro @wGO.eq_def <|
 And.intro @wQ.eq_def <|
 And.intro @rdQ.eq_def <|
 And.intro @y2f <|
 And.intro @fl1 <|
 And.intro @fl2 <|
 And.intro @fl3 <|
 And.intro @fl4 <|
 And.intro @yx5 <|
 And.intro @yb5 <|
 And.intro @yc5 <|
 And.intro @yf5 <|
 And.intro @yi5 <|
 And.intro @fl5 <|
 And.intro @fl6 <|
 And.intro @fl7 <|
 And.intro @fl8 <|
 And.intro @yg5 <|
 And.intro @y84 <|
 And.intro @yk5 <|
 And.intro @yv5 <|
 And.intro @yw8 <|
 And.intro @yb9 <|
 And.intro @y07 <|
 And.intro @y18 <|
 And.intro @yk8 <|
 And.intro @y47 <|
 And.intro @y77 <|
 And.intro @yo8 <|
 And.intro @ye5 <|
 And.intro @yt5 <|
 And.intro @yn5 <|
 And.intro @yo5 <|
 And.intro @y74 <|
 And.intro @eAid.eq_1 <|
 And.intro @dAid.eq_1 <|
 And.intro @y2z <|
 And.intro @ybi.eq_1 <|
 And.intro @ygd.eq_1 <|
 And.intro @ydf.eq_1 <|
 And.intro @y5q <|
 And.intro @ykd.eq_1 <|
 And.intro @ype.eq_1 <|
 And.intro @y4u <|
 And.intro @yi.eq_1 <|
 And.intro @yc.eq_1 <|
 And.intro @yki <|
 And.intro @ymb.eq_1 <|
 And.intro @ym.eq_1 <|
 And.intro @yq.eq_1 <|
 And.intro @yan <|
 And.intro @yid.eq_1 <|
 And.intro @y6d.eq_1 <|
 And.intro @ykk <|
 And.intro @yec.eq_1 <|
 And.intro @yxy.eq_1 <|
 And.intro @y9x.eq_1 <|
 And.intro @ykn <|
 And.intro @y8u.eq_1 <|
 And.intro @yxz.eq_1 <|
 And.intro @yfd.eq_1 <|
 And.intro @ynn <|
 And.intro @ybw.eq_1 <|
 And.intro @yt.eq_1 <|
 And.intro @y5b.eq_1 <|
 And.intro @yie <|
 And.intro @y6p <|
 And.intro @y5r <|
 And.intro @eIu8.eq_1 <|
 And.intro @dIu8.eq_1 <|
 And.intro @y7f <|
 And.intro @yfw <|
 And.intro @y6v <|
 And.intro @eS.eq_1 <|
 And.intro @dS.eq_1 <|
 And.intro @y2m <|
 And.intro @y05 <|
 And.intro @yw5 <|
 And.intro @ywc <|
 And.intro @ynk <|
 And.intro @y6k <|
 And.intro @y3h <|
 And.intro @y0u <|
 And.intro @ywu <|
 And.intro @yph <|
 And.intro @yyr <|
 And.intro @ylq <|
 And.intro @y9g <|
 And.intro @yll <|
 And.intro @yel <|
 And.intro @yfj <|
 And.intro @ynj <| @yqj
theorem bdv:type_of% (And.intro @bdS.eq_1 <| And.intro @bdMark.eq_1 <| And.intro @bdLIi64.eq_1 <| And.intro @bdCharacter.eq_1 <| And.intro @bdSector.eq_1 <| And.intro @bdLSector.eq_1 <| And.intro @bdAid.eq_1 <| And.intro @bdLAid.eq_1 <| And.intro @bdEdition.eq_1 <| And.intro @bdLIu8.eq_1 <| And.intro @bdl00Src.eq_1 <| And.intro @bdNotice.eq_1 <| And.intro @bwS.eq_1 <| And.intro @bwMark.eq_1 <| And.intro @bwLIi64.eq_1 <| And.intro @bwCharacter.eq_1 <| And.intro @bwSector.eq_1 <| And.intro @bwLSector.eq_1 <| And.intro @bwAid.eq_1 <| And.intro @bwLAid.eq_1 <| And.intro @bwEdition.eq_1 <| And.intro @bwLIu8.eq_1 <| And.intro @bwl00Src.eq_1 <| And.intro @bwNotice.eq_1 <| @Nat.le_refl):=
 And.intro @bdS.eq_1 <| And.intro @bdMark.eq_1 <| And.intro @bdLIi64.eq_1 <| And.intro @bdCharacter.eq_1 <| And.intro @bdSector.eq_1 <| And.intro @bdLSector.eq_1 <| And.intro @bdAid.eq_1 <| And.intro @bdLAid.eq_1 <| And.intro @bdEdition.eq_1 <| And.intro @bdLIu8.eq_1 <| And.intro @bdl00Src.eq_1 <| And.intro @bdNotice.eq_1 <| And.intro @bwS.eq_1 <| And.intro @bwMark.eq_1 <| And.intro @bwLIi64.eq_1 <| And.intro @bwCharacter.eq_1 <| And.intro @bwSector.eq_1 <| And.intro @bwLSector.eq_1 <| And.intro @bwAid.eq_1 <| And.intro @bwLAid.eq_1 <| And.intro @bwEdition.eq_1 <| And.intro @bwLIu8.eq_1 <| And.intro @bwl00Src.eq_1 <| And.intro @bwNotice.eq_1 <| @Nat.le_refl
structure SrcOk (n:Int) (s:l00Src):Prop where
 lo:0<=s.at_
 hi:s.at_<=n
 by_:∀ v∈s.code,0<=v/\v<=255
theorem SrcOk.mono {n m:Int} {s:l00Src} (h:SrcOk n s) (hm:n<=m):SrcOk m s:=⟨h.lo,Int.le_trans h.hi hm,h.by_⟩
end Go.Ab
