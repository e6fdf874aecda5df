/- A part of a proof: walks of functions and lemmas of our own. No conditions. -/
import Derived.Test.YtaneiddiakjgdaaGreatDoorWAk
import Derived.Test.YtaneiddiakjgdaaGreatDoorWAh
import Derived.KernelRfl
import Derived.Lib.LaidTab
import Derived.Lib.Fields
import Derived.Test.YtaneiddiakjgdaaGreatDoorProg
set_option linter.unusedSectionVars false
set_option linter.unusedVariables false
set_option linter.unusedSimpArgs false
set_option maxHeartbeats 1000000
namespace Go.Ab
open Go Go.Proofs
def tn0:String:= "strings.asciiSpace"
def yo3 (w:World):Prop:=Go.Lib.TabIs Tryz.prog w tn0 .u8 Go.Lib.asciiSpaceTab
theorem g0:Tryz.prog.globalNamed tn0=some 0:=by kernel_rfl
instance inv0:Inv:=⟨yo3,fun b=>b=0,fun w h b hb=>by
  subst hb
  unfold yo3 Go.Lib.TabIs World.var? at h
  rw[g0]at h
  simp only[Option.bind_some]at h
  by_cases hl:0<w.heap.size
  ·exact hl
  ·rw[Array.getElem?_eq_none (by omega)]at h
   simp at h,fun w w' h ho hb=>by
  unfold yo3 Go.Lib.TabIs World.var? at h ⊢
  rw[g0]at h ⊢
  simp only[Option.bind_some]at h ⊢
  rw[hb 0 rfl]
  exact h⟩
def wGO {α : Type} (e : α → List AV) (d : List AV → α) : AV → Prop
 | .agg cs=>simOL cs (e (d cs))
 | _=>False
theorem yqw {α:Type} [Inhabited α] {e:α→List AV} {d:List AV→α} {a:AV} (h:wGO e d a):simO a (.agg (e (rdG d a))):=by
 cases a<;>simp_all[wGO,rdG,simO]
def rdQ {α : Type} [Inhabited α] (d : List AV → α) : AV → α
 | .op cs=>d cs
 | _=>default
def wQ {α : Type} (e : α → List AV) (d : List AV → α) : AV → Prop
 | .op cs=>cs=e (d cs)∨simOL cs (e (d cs))
 | _=>False
theorem yu1 {α:Type} [Inhabited α] {e:α→List AV} {d:List AV→α} {a:AV} (h:wQ e d a):simO a (.op (e (rdQ d a))):=by
 cases a with
 | op cs=>
  simp only[wQ]at h
  simp only[rdQ,simO]
  rcases h with h|h
  ·rw[← h];exact yjb _
  ·exact h
 | _=>simp[wQ]at h
def G:Env:=[(2,⟨.int .i64,1,8,[.int .i64 0],true⟩),
 (3,⟨.int .i64,1,8,[.int .i64 0],true⟩),
 (4,⟨.bool,1,1,[.bool false],true⟩),
 (5,⟨.int .u8,1,1,[.int .u8 0],true⟩),
 (9,⟨.string,1,16,[.str []],true⟩),
 (21,⟨.int .i32,1,4,[.int .i32 0],true⟩),
 (22,⟨.slice 85,1,24,[.nils],true⟩),
 (24,⟨.slice 2,1,24,[.nils],true⟩),
 (27,⟨.slice 90,1,24,[.nils],true⟩),
 (34,⟨.slice 54,1,24,[.nils],true⟩),
 (36,⟨.slice 119,1,24,[.nils],true⟩),
 (39,⟨.slice 63,1,24,[.nils],true⟩),
 (47,⟨.struct [(0,2),(1,2)] true,2,16,[.int .i64 0,.int .i64 0],true⟩),
 (49,⟨.struct [(0,2),(1,9),(2,9),(3,9)] true,4,56,[.int .i64 0,.str [],.str [],.str []],true⟩),
 (51,⟨.struct [(0,2),(1,24),(2,9),(3,9),(4,2)] true,5,72,[.int .i64 0,.nils,.str [],.str [],.int .i64 0],true⟩),
 (52,⟨.slice 185,1,24,[.nils],true⟩),
 (54,⟨.struct [(0,2),(1,9),(2,47),(4,2),(5,49),(9,51),(14,52),(15,2)] true,16,208,[.int .i64 0,.str [],.int .i64 0,.int .i64 0,.int .i64 0,.int .i64 0,.str [],.str [],.str [],.int .i64 0,.nils,.str [],.str [],.int .i64 0,.nils,.int .i64 0],true⟩),
 (58,⟨.struct [(0,2),(1,2)] true,2,16,[.int .i64 0,.int .i64 0],true⟩),
 (59,⟨.struct [(0,2),(1,9),(2,9),(3,9)] true,4,56,[.int .i64 0,.str [],.str [],.str []],true⟩),
 (60,⟨.struct [(0,2),(1,24),(2,9),(3,9),(4,2)] true,5,72,[.int .i64 0,.nils,.str [],.str [],.int .i64 0],true⟩),
 (61,⟨.slice 180,1,24,[.nils],true⟩),
 (63,⟨.struct [(0,2),(1,9),(2,58),(4,2),(5,59),(9,60),(14,61),(15,2)] true,16,208,[.int .i64 0,.str [],.int .i64 0,.int .i64 0,.int .i64 0,.int .i64 0,.str [],.str [],.str [],.int .i64 0,.nils,.str [],.str [],.int .i64 0,.nils,.int .i64 0],true⟩),
 (70,⟨.slice 5,1,24,[.nils],true⟩),
 (79,⟨.struct [(0,2),(1,2),(2,39)] true,3,40,[.int .i64 0,.int .i64 0,.nils],true⟩),
 (85,⟨.struct [(0,2),(1,2),(2,2),(3,2),(4,54)] true,20,240,[.int .i64 0,.int .i64 0,.int .i64 0,.int .i64 0,.int .i64 0,.str [],.int .i64 0,.int .i64 0,.int .i64 0,.int .i64 0,.str [],.str [],.str [],.int .i64 0,.nils,.str [],.str [],.int .i64 0,.nils,.int .i64 0],true⟩),
 (90,⟨.struct [(0,2),(1,2),(2,2),(3,2),(4,63)] true,20,240,[.int .i64 0,.int .i64 0,.int .i64 0,.int .i64 0,.int .i64 0,.str [],.int .i64 0,.int .i64 0,.int .i64 0,.int .i64 0,.str [],.str [],.str [],.int .i64 0,.nils,.str [],.str [],.int .i64 0,.nils,.int .i64 0],true⟩),
 (96,⟨.slice 168,1,24,[.nils],true⟩),
 (102,⟨.struct [(0,2),(1,2),(2,34)] true,3,40,[.int .i64 0,.int .i64 0,.nils],true⟩),
 (119,⟨.struct [(0,2),(1,63)] true,17,216,[.int .i64 0,.int .i64 0,.str [],.int .i64 0,.int .i64 0,.int .i64 0,.int .i64 0,.str [],.str [],.str [],.int .i64 0,.nils,.str [],.str [],.int .i64 0,.nils,.int .i64 0],true⟩),
 (148,⟨.struct [(0,4),(1,63)] true,17,216,[.bool false,.int .i64 0,.str [],.int .i64 0,.int .i64 0,.int .i64 0,.int .i64 0,.str [],.str [],.str [],.int .i64 0,.nils,.str [],.str [],.int .i64 0,.nils,.int .i64 0],true⟩),
 (168,⟨.struct [(0,2),(1,54)] true,17,216,[.int .i64 0,.int .i64 0,.str [],.int .i64 0,.int .i64 0,.int .i64 0,.int .i64 0,.str [],.str [],.str [],.int .i64 0,.nils,.str [],.str [],.int .i64 0,.nils,.int .i64 0],true⟩),
 (180,⟨.struct [(0,2),(1,2),(2,9)] true,3,32,[.int .i64 0,.int .i64 0,.str []],true⟩),
 (185,⟨.struct [(0,2),(1,2),(2,9)] true,3,32,[.int .i64 0,.int .i64 0,.str []],true⟩),
 (200,⟨.slice 39,1,24,[.nils],true⟩),
 (218,⟨.slice 9,1,24,[.nils],true⟩),
 (261,⟨.array 26 9,26,416,[.str [],.str [],.str [],.str [],.str [],.str [],.str [],.str [],.str [],.str [],.str [],.str [],.str [],.str [],.str [],.str [],.str [],.str [],.str [],.str [],.str [],.str [],.str [],.str [],.str [],.str []],true⟩)]
theorem G_ok:TyOk Tryz.prog G:=by unfold TyOk;kernel_rfl
theorem gv:tget G 2=some ⟨.int .i64,1,8,[.int .i64 0],true⟩ ∧
 tget G 3=some ⟨.int .i64,1,8,[.int .i64 0],true⟩ ∧
 tget G 4=some ⟨.bool,1,1,[.bool false],true⟩ ∧
 tget G 5=some ⟨.int .u8,1,1,[.int .u8 0],true⟩ ∧
 tget G 9=some ⟨.string,1,16,[.str []],true⟩ ∧
 tget G 21=some ⟨.int .i32,1,4,[.int .i32 0],true⟩ ∧
 tget G 22=some ⟨.slice 85,1,24,[.nils],true⟩ ∧
 tget G 24=some ⟨.slice 2,1,24,[.nils],true⟩ ∧
 tget G 27=some ⟨.slice 90,1,24,[.nils],true⟩ ∧
 tget G 34=some ⟨.slice 54,1,24,[.nils],true⟩ ∧
 tget G 36=some ⟨.slice 119,1,24,[.nils],true⟩ ∧
 tget G 39=some ⟨.slice 63,1,24,[.nils],true⟩ ∧
 tget G 47=some ⟨.struct [(0,2),(1,2)] true,2,16,[.int .i64 0,.int .i64 0],true⟩ ∧
 tget G 49=some ⟨.struct [(0,2),(1,9),(2,9),(3,9)] true,4,56,[.int .i64 0,.str [],.str [],.str []],true⟩ ∧
 tget G 51=some ⟨.struct [(0,2),(1,24),(2,9),(3,9),(4,2)] true,5,72,[.int .i64 0,.nils,.str [],.str [],.int .i64 0],true⟩ ∧
 tget G 52=some ⟨.slice 185,1,24,[.nils],true⟩ ∧
 tget G 54=some ⟨.struct [(0,2),(1,9),(2,47),(4,2),(5,49),(9,51),(14,52),(15,2)] true,16,208,[.int .i64 0,.str [],.int .i64 0,.int .i64 0,.int .i64 0,.int .i64 0,.str [],.str [],.str [],.int .i64 0,.nils,.str [],.str [],.int .i64 0,.nils,.int .i64 0],true⟩ ∧
 tget G 58=some ⟨.struct [(0,2),(1,2)] true,2,16,[.int .i64 0,.int .i64 0],true⟩ ∧
 tget G 59=some ⟨.struct [(0,2),(1,9),(2,9),(3,9)] true,4,56,[.int .i64 0,.str [],.str [],.str []],true⟩ ∧
 tget G 60=some ⟨.struct [(0,2),(1,24),(2,9),(3,9),(4,2)] true,5,72,[.int .i64 0,.nils,.str [],.str [],.int .i64 0],true⟩ ∧
 tget G 61=some ⟨.slice 180,1,24,[.nils],true⟩ ∧
 tget G 63=some ⟨.struct [(0,2),(1,9),(2,58),(4,2),(5,59),(9,60),(14,61),(15,2)] true,16,208,[.int .i64 0,.str [],.int .i64 0,.int .i64 0,.int .i64 0,.int .i64 0,.str [],.str [],.str [],.int .i64 0,.nils,.str [],.str [],.int .i64 0,.nils,.int .i64 0],true⟩ ∧
 tget G 70=some ⟨.slice 5,1,24,[.nils],true⟩ ∧
 tget G 79=some ⟨.struct [(0,2),(1,2),(2,39)] true,3,40,[.int .i64 0,.int .i64 0,.nils],true⟩ ∧
 tget G 85=some ⟨.struct [(0,2),(1,2),(2,2),(3,2),(4,54)] true,20,240,[.int .i64 0,.int .i64 0,.int .i64 0,.int .i64 0,.int .i64 0,.str [],.int .i64 0,.int .i64 0,.int .i64 0,.int .i64 0,.str [],.str [],.str [],.int .i64 0,.nils,.str [],.str [],.int .i64 0,.nils,.int .i64 0],true⟩ ∧
 tget G 90=some ⟨.struct [(0,2),(1,2),(2,2),(3,2),(4,63)] true,20,240,[.int .i64 0,.int .i64 0,.int .i64 0,.int .i64 0,.int .i64 0,.str [],.int .i64 0,.int .i64 0,.int .i64 0,.int .i64 0,.str [],.str [],.str [],.int .i64 0,.nils,.str [],.str [],.int .i64 0,.nils,.int .i64 0],true⟩ ∧
 tget G 96=some ⟨.slice 168,1,24,[.nils],true⟩ ∧
 tget G 102=some ⟨.struct [(0,2),(1,2),(2,34)] true,3,40,[.int .i64 0,.int .i64 0,.nils],true⟩ ∧
 tget G 119=some ⟨.struct [(0,2),(1,63)] true,17,216,[.int .i64 0,.int .i64 0,.str [],.int .i64 0,.int .i64 0,.int .i64 0,.int .i64 0,.str [],.str [],.str [],.int .i64 0,.nils,.str [],.str [],.int .i64 0,.nils,.int .i64 0],true⟩ ∧
 tget G 148=some ⟨.struct [(0,4),(1,63)] true,17,216,[.bool false,.int .i64 0,.str [],.int .i64 0,.int .i64 0,.int .i64 0,.int .i64 0,.str [],.str [],.str [],.int .i64 0,.nils,.str [],.str [],.int .i64 0,.nils,.int .i64 0],true⟩ ∧
 tget G 168=some ⟨.struct [(0,2),(1,54)] true,17,216,[.int .i64 0,.int .i64 0,.str [],.int .i64 0,.int .i64 0,.int .i64 0,.int .i64 0,.str [],.str [],.str [],.int .i64 0,.nils,.str [],.str [],.int .i64 0,.nils,.int .i64 0],true⟩ ∧
 tget G 180=some ⟨.struct [(0,2),(1,2),(2,9)] true,3,32,[.int .i64 0,.int .i64 0,.str []],true⟩ ∧
 tget G 185=some ⟨.struct [(0,2),(1,2),(2,9)] true,3,32,[.int .i64 0,.int .i64 0,.str []],true⟩ ∧
 tget G 200=some ⟨.slice 39,1,24,[.nils],true⟩ ∧
 tget G 218=some ⟨.slice 9,1,24,[.nils],true⟩ ∧
 tget G 261=some ⟨.array 26 9,26,416,[.str [],.str [],.str [],.str [],.str [],.str [],.str [],.str [],.str [],.str [],.str [],.str [],.str [],.str [],.str [],.str [],.str [],.str [],.str [],.str [],.str [],.str [],.str [],.str [],.str [],.str []],true⟩:=by
 and_intros<;>rfl
theorem mixed:Tryz.prog.follows .mixedOrders=true:=by kernel_rfl
def yp (v:Int):List AV:=[.int .i64 v]
def ylb : List AV → Int
 | [c]=>rdI c
 | _=>default
def eIu8 (v:Int):List AV:=[.int .u8 v]
def dIu8 : List AV → Int
 | [c]=>rdI c
 | _=>default
def eS (v:(List UInt8)):List AV:=[.str v]
def dS : List AV → (List UInt8)
 | [c]=>rdS c
 | _=>default
structure Point where
 X:Int
 Y:Int
 deriving Inhabited,DecidableEq
def ePoint (v:Point):List AV:=[.int .i64 v.X,.int .i64 v.Y]
def y6e : List AV → Point
 | c0::c1::_=>⟨rdI c0,rdI c1⟩
 | _=>default
theorem ysn (v:Point):Point.mk v.X v.Y=v:=rfl
structure Mark where
 Kind:Int
 Colors:(List UInt8)
 Shape:(List UInt8)
 Topmark:(List UInt8)
 deriving Inhabited,DecidableEq
def eMark (v:Mark):List AV:=[.int .i64 v.Kind,.str v.Colors,.str v.Shape,.str v.Topmark]
def ymf : List AV → Mark
 | c0::c1::c2::c3::_=>⟨rdI c0,rdS c1,rdS c2,rdS c3⟩
 | _=>default
theorem y5r (v:Mark):Mark.mk v.Kind v.Colors v.Shape v.Topmark=v:=rfl
structure Character where
 Kind:Int
 Group:(List Int)
 Letter:(List UInt8)
 Colors:(List UInt8)
 Period:Int
 deriving Inhabited,DecidableEq
def eCharacter (v:Character):List AV:=[.int .i64 v.Kind,encL 1 yp v.Group,.str v.Letter,.str v.Colors,.int .i64 v.Period]
def y7b (v:Character):List AV:=[.int .i64 v.Kind,ownL 2 1 yp v.Group,.str v.Letter,.str v.Colors,.int .i64 v.Period]
def yf : List AV → Character
 | c0::c1::c2::c3::c4::_=>⟨rdI c0,rdL ylb c1,rdS c2,rdS c3,rdI c4⟩
 | _=>default
theorem y4g (v:Character):Character.mk v.Kind v.Group v.Letter v.Colors v.Period=v:=rfl
structure Sector where
 From:Int
 To:Int
 Color:(List UInt8)
 deriving Inhabited,DecidableEq
def eSector (v:Sector):List AV:=[.int .i64 v.From,.int .i64 v.To,.str v.Color]
def yn : List AV → Sector
 | c0::c1::c2::_=>⟨rdI c0,rdI c1,rdS c2⟩
 | _=>default
theorem ygl (v:Sector):Sector.mk v.From v.To v.Color=v:=rfl
structure Aid where
 Number:Int
 Name:(List UInt8)
 At:Point
 Height:Int
 Mark:Mark
 Light:Character
 Sectors:(List Sector)
 Intensity:Int
 deriving Inhabited,DecidableEq
def eAid (v:Aid):List AV:=[.int .i64 v.Number,.str v.Name,.int .i64 v.At.X,.int .i64 v.At.Y,.int .i64 v.Height,.int .i64 v.Mark.Kind,.str v.Mark.Colors,.str v.Mark.Shape,.str v.Mark.Topmark,.int .i64 v.Light.Kind,encL 1 yp v.Light.Group,.str v.Light.Letter,.str v.Light.Colors,.int .i64 v.Light.Period,encL 3 eSector v.Sectors,.int .i64 v.Intensity]
def ygb (v:Aid):List AV:=[.int .i64 v.Number,.str v.Name,.int .i64 v.At.X,.int .i64 v.At.Y,.int .i64 v.Height,.int .i64 v.Mark.Kind,.str v.Mark.Colors,.str v.Mark.Shape,.str v.Mark.Topmark,.int .i64 v.Light.Kind,ownL 2 1 yp v.Light.Group,.str v.Light.Letter,.str v.Light.Colors,.int .i64 v.Light.Period,ownL 180 3 eSector v.Sectors,.int .i64 v.Intensity]
def dAid : List AV → Aid
 | c0::c1::c2::c3::c4::c5::c6::c7::c8::c9::c10::c11::c12::c13::c14::c15::_=>⟨rdI c0,rdS c1,⟨rdI c2,rdI c3⟩,rdI c4,⟨rdI c5,rdS c6,rdS c7,rdS c8⟩,⟨rdI c9,rdL ylb c10,rdS c11,rdS c12,rdI c13⟩,rdL yn c14,rdI c15⟩
 | _=>default
theorem ycv (v:Aid):Aid.mk v.Number v.Name v.At v.Height v.Mark v.Light v.Sectors v.Intensity=v:=rfl
structure Notice where
 Number:Int
 Day:Int
 Kind:Int
 Target:Int
 Aid:Aid
 deriving Inhabited,DecidableEq
def eNotice (v:Notice):List AV:=[.int .i64 v.Number,.int .i64 v.Day,.int .i64 v.Kind,.int .i64 v.Target,.int .i64 v.Aid.Number,.str v.Aid.Name,.int .i64 v.Aid.At.X,.int .i64 v.Aid.At.Y,.int .i64 v.Aid.Height,.int .i64 v.Aid.Mark.Kind,.str v.Aid.Mark.Colors,.str v.Aid.Mark.Shape,.str v.Aid.Mark.Topmark,.int .i64 v.Aid.Light.Kind,encL 1 yp v.Aid.Light.Group,.str v.Aid.Light.Letter,.str v.Aid.Light.Colors,.int .i64 v.Aid.Light.Period,encL 3 eSector v.Aid.Sectors,.int .i64 v.Aid.Intensity]
def ybb (v:Notice):List AV:=[.int .i64 v.Number,.int .i64 v.Day,.int .i64 v.Kind,.int .i64 v.Target,.int .i64 v.Aid.Number,.str v.Aid.Name,.int .i64 v.Aid.At.X,.int .i64 v.Aid.At.Y,.int .i64 v.Aid.Height,.int .i64 v.Aid.Mark.Kind,.str v.Aid.Mark.Colors,.str v.Aid.Mark.Shape,.str v.Aid.Mark.Topmark,.int .i64 v.Aid.Light.Kind,ownL 2 1 yp v.Aid.Light.Group,.str v.Aid.Light.Letter,.str v.Aid.Light.Colors,.int .i64 v.Aid.Light.Period,ownL 180 3 eSector v.Aid.Sectors,.int .i64 v.Aid.Intensity]
def yc : List AV → Notice
 | c0::c1::c2::c3::c4::c5::c6::c7::c8::c9::c10::c11::c12::c13::c14::c15::c16::c17::c18::c19::_=>⟨rdI c0,rdI c1,rdI c2,rdI c3,⟨rdI c4,rdS c5,⟨rdI c6,rdI c7⟩,rdI c8,⟨rdI c9,rdS c10,rdS c11,rdS c12⟩,⟨rdI c13,rdL ylb c14,rdS c15,rdS c16,rdI c17⟩,rdL yn c18,rdI c19⟩⟩
 | _=>default
theorem y9k (v:Notice):Notice.mk v.Number v.Day v.Kind v.Target v.Aid=v:=rfl
structure Correction where
 Kind:Int
 Aid:Aid
 deriving Inhabited,DecidableEq
def ylk (v:Correction):List AV:=[.int .i64 v.Kind,.int .i64 v.Aid.Number,.str v.Aid.Name,.int .i64 v.Aid.At.X,.int .i64 v.Aid.At.Y,.int .i64 v.Aid.Height,.int .i64 v.Aid.Mark.Kind,.str v.Aid.Mark.Colors,.str v.Aid.Mark.Shape,.str v.Aid.Mark.Topmark,.int .i64 v.Aid.Light.Kind,encL 1 yp v.Aid.Light.Group,.str v.Aid.Light.Letter,.str v.Aid.Light.Colors,.int .i64 v.Aid.Light.Period,encL 3 eSector v.Aid.Sectors,.int .i64 v.Aid.Intensity]
def ybi (v:Correction):List AV:=[.int .i64 v.Kind,.int .i64 v.Aid.Number,.str v.Aid.Name,.int .i64 v.Aid.At.X,.int .i64 v.Aid.At.Y,.int .i64 v.Aid.Height,.int .i64 v.Aid.Mark.Kind,.str v.Aid.Mark.Colors,.str v.Aid.Mark.Shape,.str v.Aid.Mark.Topmark,.int .i64 v.Aid.Light.Kind,ownL 2 1 yp v.Aid.Light.Group,.str v.Aid.Light.Letter,.str v.Aid.Light.Colors,.int .i64 v.Aid.Light.Period,ownL 180 3 eSector v.Aid.Sectors,.int .i64 v.Aid.Intensity]
def ysb : List AV → Correction
 | c0::c1::c2::c3::c4::c5::c6::c7::c8::c9::c10::c11::c12::c13::c14::c15::c16::_=>⟨rdI c0,⟨rdI c1,rdS c2,⟨rdI c3,rdI c4⟩,rdI c5,⟨rdI c6,rdS c7,rdS c8,rdS c9⟩,⟨rdI c10,rdL ylb c11,rdS c12,rdS c13,rdI c14⟩,rdL yn c15,rdI c16⟩⟩
 | _=>default
theorem yfg (v:Correction):Correction.mk v.Kind v.Aid=v:=rfl
structure state where
 found:Bool
 aid:Aid
 deriving Inhabited,DecidableEq
def yv1 (v:state):List AV:=[.bool v.found,.int .i64 v.aid.Number,.str v.aid.Name,.int .i64 v.aid.At.X,.int .i64 v.aid.At.Y,.int .i64 v.aid.Height,.int .i64 v.aid.Mark.Kind,.str v.aid.Mark.Colors,.str v.aid.Mark.Shape,.str v.aid.Mark.Topmark,.int .i64 v.aid.Light.Kind,encL 1 yp v.aid.Light.Group,.str v.aid.Light.Letter,.str v.aid.Light.Colors,.int .i64 v.aid.Light.Period,encL 3 eSector v.aid.Sectors,.int .i64 v.aid.Intensity]
def ykw (v:state):List AV:=[.bool v.found,.int .i64 v.aid.Number,.str v.aid.Name,.int .i64 v.aid.At.X,.int .i64 v.aid.At.Y,.int .i64 v.aid.Height,.int .i64 v.aid.Mark.Kind,.str v.aid.Mark.Colors,.str v.aid.Mark.Shape,.str v.aid.Mark.Topmark,.int .i64 v.aid.Light.Kind,ownL 2 1 yp v.aid.Light.Group,.str v.aid.Light.Letter,.str v.aid.Light.Colors,.int .i64 v.aid.Light.Period,ownL 180 3 eSector v.aid.Sectors,.int .i64 v.aid.Intensity]
def y41 : List AV → state
 | c0::c1::c2::c3::c4::c5::c6::c7::c8::c9::c10::c11::c12::c13::c14::c15::c16::_=>⟨rdB c0,⟨rdI c1,rdS c2,⟨rdI c3,rdI c4⟩,rdI c5,⟨rdI c6,rdS c7,rdS c8,rdS c9⟩,⟨rdI c10,rdL ylb c11,rdS c12,rdS c13,rdI c14⟩,rdL yn c15,rdI c16⟩⟩
 | _=>default
theorem yso (v:state):state.mk v.found v.aid=v:=rfl
structure Edition where
 Number:Int
 Day:Int
 Aids:(List Aid)
 deriving Inhabited,DecidableEq
def eEdition (v:Edition):List AV:=[.int .i64 v.Number,.int .i64 v.Day,encL 16 eAid v.Aids]
def yhc (v:Edition):List AV:=[.int .i64 v.Number,.int .i64 v.Day,ownL 63 16 ygb v.Aids]
def yx : List AV → Edition
 | c0::c1::c2::_=>⟨rdI c0,rdI c1,rdL dAid c2⟩
 | _=>default
theorem ynj (v:Edition):Edition.mk v.Number v.Day v.Aids=v:=rfl
theorem ypc (l:List Int):decL ylb l.length (fun i=>[.int .i64 (l.getD i default)])=l:=ydb l
theorem y8p (l:List Int) (lo n:Nat):decL ylb n (fun i=>[.int .i64 (l.getD (lo+i) default)])=subL l lo n:=rfl
theorem yro (l:List Int) (n:Nat):decL ylb n (fun i=>[.int .i64 (l.getD i default)])=subL l 0 n:=by simp only[subL,Nat.zero_add];rfl
theorem y9c (l:List Int):decL dIu8 l.length (fun i=>[.int .u8 (l.getD i default)])=l:=ydb l
theorem yft (l:List Int) (lo n:Nat):decL dIu8 n (fun i=>[.int .u8 (l.getD (lo+i) default)])=subL l lo n:=rfl
theorem yyr (l:List Int) (n:Nat):decL dIu8 n (fun i=>[.int .u8 (l.getD i default)])=subL l 0 n:=by simp only[subL,Nat.zero_add];rfl
def yk4 (v:(List Aid)):List AV:=[encL 16 eAid v]
def ypi : List AV → (List Aid)
 | [c]=>rdL dAid c
 | _=>default
theorem yag (l:List (List UInt8)):decL dS l.length (fun i=>[.str (l.getD i default)])=l:=ydb l
theorem yi2 (l:List (List UInt8)) (lo n:Nat):decL dS n (fun i=>[.str (l.getD (lo+i) default)])=subL l lo n:=rfl
theorem y21 (l:List (List UInt8)) (n:Nat):decL dS n (fun i=>[.str (l.getD i default)])=subL l 0 n:=by simp only[subL,Nat.zero_add];rfl
theorem y1b (l:List Sector):decL yn l.length (fun i=>[.int .i64 ((l.getD i default).From),.int .i64 ((l.getD i default).To),.str ((l.getD i default).Color)])=l:=ydb l
theorem yvk (l:List Sector) (lo n:Nat):decL yn n (fun i=>[.int .i64 ((l.getD (lo+i) default).From),.int .i64 ((l.getD (lo+i) default).To),.str ((l.getD (lo+i) default).Color)])=subL l lo n:=rfl
theorem yek (l:List Sector) (n:Nat):decL yn n (fun i=>[.int .i64 ((l.getD i default).From),.int .i64 ((l.getD i default).To),.str ((l.getD i default).Color)])=subL l 0 n:=by simp only[subL,Nat.zero_add];rfl
theorem ynq (v:Aid):dAid [.int .i64 v.Number,.str v.Name,.int .i64 v.At.X,.int .i64 v.At.Y,.int .i64 v.Height,.int .i64 v.Mark.Kind,.str v.Mark.Colors,.str v.Mark.Shape,.str v.Mark.Topmark,.int .i64 v.Light.Kind,.sl none 1 v.Light.Group.length (fun j=>[.int .i64 (v.Light.Group.getD j default)]),.str v.Light.Letter,.str v.Light.Colors,.int .i64 v.Light.Period,.sl none 3 v.Sectors.length (fun j=>[.int .i64 ((v.Sectors.getD j default).From),.int .i64 ((v.Sectors.getD j default).To),.str ((v.Sectors.getD j default).Color)]),.int .i64 v.Intensity]=v:=by simp only[dAid,rdI,rdB,rdS,rdL,ypc,y9c,yag,y1b]
theorem yjd (l:List Aid):decL dAid l.length (fun i=>[.int .i64 ((l.getD i default).Number),.str ((l.getD i default).Name),.int .i64 (((l.getD i default).At).X),.int .i64 (((l.getD i default).At).Y),.int .i64 ((l.getD i default).Height),.int .i64 (((l.getD i default).Mark).Kind),.str (((l.getD i default).Mark).Colors),.str (((l.getD i default).Mark).Shape),.str (((l.getD i default).Mark).Topmark),.int .i64 (((l.getD i default).Light).Kind),.sl none 1 (((l.getD i default).Light).Group).length (fun j=>[.int .i64 ((((l.getD i default).Light).Group).getD j default)]),.str (((l.getD i default).Light).Letter),.str (((l.getD i default).Light).Colors),.int .i64 (((l.getD i default).Light).Period),.sl none 3 ((l.getD i default).Sectors).length (fun j=>[.int .i64 ((((l.getD i default).Sectors).getD j default).From),.int .i64 ((((l.getD i default).Sectors).getD j default).To),.str ((((l.getD i default).Sectors).getD j default).Color)]),.int .i64 ((l.getD i default).Intensity)])=l:=(List.map_congr_left fun i _=>ynq (l.getD i default)).trans (ydb l)
theorem yrs (l:List Aid) (lo n:Nat):decL dAid n (fun i=>[.int .i64 ((l.getD (lo+i) default).Number),.str ((l.getD (lo+i) default).Name),.int .i64 (((l.getD (lo+i) default).At).X),.int .i64 (((l.getD (lo+i) default).At).Y),.int .i64 ((l.getD (lo+i) default).Height),.int .i64 (((l.getD (lo+i) default).Mark).Kind),.str (((l.getD (lo+i) default).Mark).Colors),.str (((l.getD (lo+i) default).Mark).Shape),.str (((l.getD (lo+i) default).Mark).Topmark),.int .i64 (((l.getD (lo+i) default).Light).Kind),.sl none 1 (((l.getD (lo+i) default).Light).Group).length (fun j=>[.int .i64 ((((l.getD (lo+i) default).Light).Group).getD j default)]),.str (((l.getD (lo+i) default).Light).Letter),.str (((l.getD (lo+i) default).Light).Colors),.int .i64 (((l.getD (lo+i) default).Light).Period),.sl none 3 ((l.getD (lo+i) default).Sectors).length (fun j=>[.int .i64 ((((l.getD (lo+i) default).Sectors).getD j default).From),.int .i64 ((((l.getD (lo+i) default).Sectors).getD j default).To),.str ((((l.getD (lo+i) default).Sectors).getD j default).Color)]),.int .i64 ((l.getD (lo+i) default).Intensity)])=subL l lo n:=List.map_congr_left fun i _=>ynq (l.getD (lo+i) default)
theorem y8s (l:List Aid) (n:Nat):decL dAid n (fun i=>[.int .i64 ((l.getD i default).Number),.str ((l.getD i default).Name),.int .i64 (((l.getD i default).At).X),.int .i64 (((l.getD i default).At).Y),.int .i64 ((l.getD i default).Height),.int .i64 (((l.getD i default).Mark).Kind),.str (((l.getD i default).Mark).Colors),.str (((l.getD i default).Mark).Shape),.str (((l.getD i default).Mark).Topmark),.int .i64 (((l.getD i default).Light).Kind),.sl none 1 (((l.getD i default).Light).Group).length (fun j=>[.int .i64 ((((l.getD i default).Light).Group).getD j default)]),.str (((l.getD i default).Light).Letter),.str (((l.getD i default).Light).Colors),.int .i64 (((l.getD i default).Light).Period),.sl none 3 ((l.getD i default).Sectors).length (fun j=>[.int .i64 ((((l.getD i default).Sectors).getD j default).From),.int .i64 ((((l.getD i default).Sectors).getD j default).To),.str ((((l.getD i default).Sectors).getD j default).Color)]),.int .i64 ((l.getD i default).Intensity)])=subL l 0 n:=by simp only[subL,Nat.zero_add];exact List.map_congr_left fun i _=>ynq (l.getD i default)
theorem yum (v:Aid):dAid [.int .i64 v.Number,.str v.Name,.int .i64 v.At.X,.int .i64 v.At.Y,.int .i64 v.Height,.int .i64 v.Mark.Kind,.str v.Mark.Colors,.str v.Mark.Shape,.str v.Mark.Topmark,.int .i64 v.Light.Kind,.sl (some 2) 1 v.Light.Group.length (fun j=>[.int .i64 (v.Light.Group.getD j default)]),.str v.Light.Letter,.str v.Light.Colors,.int .i64 v.Light.Period,.sl (some 180) 3 v.Sectors.length (fun j=>[.int .i64 ((v.Sectors.getD j default).From),.int .i64 ((v.Sectors.getD j default).To),.str ((v.Sectors.getD j default).Color)]),.int .i64 v.Intensity]=v:=by simp only[dAid,rdI,rdB,rdS,rdL,ypc,y9c,yag,y1b,yjd]
theorem yad (l:List Aid):decL dAid l.length (fun i=>[.int .i64 ((l.getD i default).Number),.str ((l.getD i default).Name),.int .i64 (((l.getD i default).At).X),.int .i64 (((l.getD i default).At).Y),.int .i64 ((l.getD i default).Height),.int .i64 (((l.getD i default).Mark).Kind),.str (((l.getD i default).Mark).Colors),.str (((l.getD i default).Mark).Shape),.str (((l.getD i default).Mark).Topmark),.int .i64 (((l.getD i default).Light).Kind),.sl (some 2) 1 (((l.getD i default).Light).Group).length (fun j=>[.int .i64 ((((l.getD i default).Light).Group).getD j default)]),.str (((l.getD i default).Light).Letter),.str (((l.getD i default).Light).Colors),.int .i64 (((l.getD i default).Light).Period),.sl (some 180) 3 ((l.getD i default).Sectors).length (fun j=>[.int .i64 ((((l.getD i default).Sectors).getD j default).From),.int .i64 ((((l.getD i default).Sectors).getD j default).To),.str ((((l.getD i default).Sectors).getD j default).Color)]),.int .i64 ((l.getD i default).Intensity)])=l:=(List.map_congr_left fun i _=>yum (l.getD i default)).trans (ydb l)
theorem yko (l:List Aid) (lo n:Nat):decL dAid n (fun i=>[.int .i64 ((l.getD (lo+i) default).Number),.str ((l.getD (lo+i) default).Name),.int .i64 (((l.getD (lo+i) default).At).X),.int .i64 (((l.getD (lo+i) default).At).Y),.int .i64 ((l.getD (lo+i) default).Height),.int .i64 (((l.getD (lo+i) default).Mark).Kind),.str (((l.getD (lo+i) default).Mark).Colors),.str (((l.getD (lo+i) default).Mark).Shape),.str (((l.getD (lo+i) default).Mark).Topmark),.int .i64 (((l.getD (lo+i) default).Light).Kind),.sl (some 2) 1 (((l.getD (lo+i) default).Light).Group).length (fun j=>[.int .i64 ((((l.getD (lo+i) default).Light).Group).getD j default)]),.str (((l.getD (lo+i) default).Light).Letter),.str (((l.getD (lo+i) default).Light).Colors),.int .i64 (((l.getD (lo+i) default).Light).Period),.sl (some 180) 3 ((l.getD (lo+i) default).Sectors).length (fun j=>[.int .i64 ((((l.getD (lo+i) default).Sectors).getD j default).From),.int .i64 ((((l.getD (lo+i) default).Sectors).getD j default).To),.str ((((l.getD (lo+i) default).Sectors).getD j default).Color)]),.int .i64 ((l.getD (lo+i) default).Intensity)])=subL l lo n:=List.map_congr_left fun i _=>yum (l.getD (lo+i) default)
theorem y0o (l:List Aid) (n:Nat):decL dAid n (fun i=>[.int .i64 ((l.getD i default).Number),.str ((l.getD i default).Name),.int .i64 (((l.getD i default).At).X),.int .i64 (((l.getD i default).At).Y),.int .i64 ((l.getD i default).Height),.int .i64 (((l.getD i default).Mark).Kind),.str (((l.getD i default).Mark).Colors),.str (((l.getD i default).Mark).Shape),.str (((l.getD i default).Mark).Topmark),.int .i64 (((l.getD i default).Light).Kind),.sl (some 2) 1 (((l.getD i default).Light).Group).length (fun j=>[.int .i64 ((((l.getD i default).Light).Group).getD j default)]),.str (((l.getD i default).Light).Letter),.str (((l.getD i default).Light).Colors),.int .i64 (((l.getD i default).Light).Period),.sl (some 180) 3 ((l.getD i default).Sectors).length (fun j=>[.int .i64 ((((l.getD i default).Sectors).getD j default).From),.int .i64 ((((l.getD i default).Sectors).getD j default).To),.str ((((l.getD i default).Sectors).getD j default).Color)]),.int .i64 ((l.getD i default).Intensity)])=subL l 0 n:=by simp only[subL,Nat.zero_add];exact List.map_congr_left fun i _=>yum (l.getD i default)
theorem y8d (v:Correction):ysb [.int .i64 v.Kind,.int .i64 v.Aid.Number,.str v.Aid.Name,.int .i64 v.Aid.At.X,.int .i64 v.Aid.At.Y,.int .i64 v.Aid.Height,.int .i64 v.Aid.Mark.Kind,.str v.Aid.Mark.Colors,.str v.Aid.Mark.Shape,.str v.Aid.Mark.Topmark,.int .i64 v.Aid.Light.Kind,.sl none 1 v.Aid.Light.Group.length (fun j=>[.int .i64 (v.Aid.Light.Group.getD j default)]),.str v.Aid.Light.Letter,.str v.Aid.Light.Colors,.int .i64 v.Aid.Light.Period,.sl none 3 v.Aid.Sectors.length (fun j=>[.int .i64 ((v.Aid.Sectors.getD j default).From),.int .i64 ((v.Aid.Sectors.getD j default).To),.str ((v.Aid.Sectors.getD j default).Color)]),.int .i64 v.Aid.Intensity]=v:=by simp only[ysb,rdI,rdB,rdS,rdL,ypc,y9c,yag,y1b,yjd,yad]
theorem ywb (l:List Correction):decL ysb l.length (fun i=>[.int .i64 ((l.getD i default).Kind),.int .i64 (((l.getD i default).Aid).Number),.str (((l.getD i default).Aid).Name),.int .i64 ((((l.getD i default).Aid).At).X),.int .i64 ((((l.getD i default).Aid).At).Y),.int .i64 (((l.getD i default).Aid).Height),.int .i64 ((((l.getD i default).Aid).Mark).Kind),.str ((((l.getD i default).Aid).Mark).Colors),.str ((((l.getD i default).Aid).Mark).Shape),.str ((((l.getD i default).Aid).Mark).Topmark),.int .i64 ((((l.getD i default).Aid).Light).Kind),.sl none 1 ((((l.getD i default).Aid).Light).Group).length (fun j=>[.int .i64 (((((l.getD i default).Aid).Light).Group).getD j default)]),.str ((((l.getD i default).Aid).Light).Letter),.str ((((l.getD i default).Aid).Light).Colors),.int .i64 ((((l.getD i default).Aid).Light).Period),.sl none 3 (((l.getD i default).Aid).Sectors).length (fun j=>[.int .i64 (((((l.getD i default).Aid).Sectors).getD j default).From),.int .i64 (((((l.getD i default).Aid).Sectors).getD j default).To),.str (((((l.getD i default).Aid).Sectors).getD j default).Color)]),.int .i64 (((l.getD i default).Aid).Intensity)])=l:=(List.map_congr_left fun i _=>y8d (l.getD i default)).trans (ydb l)
theorem yaf (l:List Correction) (lo n:Nat):decL ysb n (fun i=>[.int .i64 ((l.getD (lo+i) default).Kind),.int .i64 (((l.getD (lo+i) default).Aid).Number),.str (((l.getD (lo+i) default).Aid).Name),.int .i64 ((((l.getD (lo+i) default).Aid).At).X),.int .i64 ((((l.getD (lo+i) default).Aid).At).Y),.int .i64 (((l.getD (lo+i) default).Aid).Height),.int .i64 ((((l.getD (lo+i) default).Aid).Mark).Kind),.str ((((l.getD (lo+i) default).Aid).Mark).Colors),.str ((((l.getD (lo+i) default).Aid).Mark).Shape),.str ((((l.getD (lo+i) default).Aid).Mark).Topmark),.int .i64 ((((l.getD (lo+i) default).Aid).Light).Kind),.sl none 1 ((((l.getD (lo+i) default).Aid).Light).Group).length (fun j=>[.int .i64 (((((l.getD (lo+i) default).Aid).Light).Group).getD j default)]),.str ((((l.getD (lo+i) default).Aid).Light).Letter),.str ((((l.getD (lo+i) default).Aid).Light).Colors),.int .i64 ((((l.getD (lo+i) default).Aid).Light).Period),.sl none 3 (((l.getD (lo+i) default).Aid).Sectors).length (fun j=>[.int .i64 (((((l.getD (lo+i) default).Aid).Sectors).getD j default).From),.int .i64 (((((l.getD (lo+i) default).Aid).Sectors).getD j default).To),.str (((((l.getD (lo+i) default).Aid).Sectors).getD j default).Color)]),.int .i64 (((l.getD (lo+i) default).Aid).Intensity)])=subL l lo n:=List.map_congr_left fun i _=>y8d (l.getD (lo+i) default)
theorem ynf (l:List Correction) (n:Nat):decL ysb n (fun i=>[.int .i64 ((l.getD i default).Kind),.int .i64 (((l.getD i default).Aid).Number),.str (((l.getD i default).Aid).Name),.int .i64 ((((l.getD i default).Aid).At).X),.int .i64 ((((l.getD i default).Aid).At).Y),.int .i64 (((l.getD i default).Aid).Height),.int .i64 ((((l.getD i default).Aid).Mark).Kind),.str ((((l.getD i default).Aid).Mark).Colors),.str ((((l.getD i default).Aid).Mark).Shape),.str ((((l.getD i default).Aid).Mark).Topmark),.int .i64 ((((l.getD i default).Aid).Light).Kind),.sl none 1 ((((l.getD i default).Aid).Light).Group).length (fun j=>[.int .i64 (((((l.getD i default).Aid).Light).Group).getD j default)]),.str ((((l.getD i default).Aid).Light).Letter),.str ((((l.getD i default).Aid).Light).Colors),.int .i64 ((((l.getD i default).Aid).Light).Period),.sl none 3 (((l.getD i default).Aid).Sectors).length (fun j=>[.int .i64 (((((l.getD i default).Aid).Sectors).getD j default).From),.int .i64 (((((l.getD i default).Aid).Sectors).getD j default).To),.str (((((l.getD i default).Aid).Sectors).getD j default).Color)]),.int .i64 (((l.getD i default).Aid).Intensity)])=subL l 0 n:=by simp only[subL,Nat.zero_add];exact List.map_congr_left fun i _=>y8d (l.getD i default)
theorem ypd (v:Correction):ysb [.int .i64 v.Kind,.int .i64 v.Aid.Number,.str v.Aid.Name,.int .i64 v.Aid.At.X,.int .i64 v.Aid.At.Y,.int .i64 v.Aid.Height,.int .i64 v.Aid.Mark.Kind,.str v.Aid.Mark.Colors,.str v.Aid.Mark.Shape,.str v.Aid.Mark.Topmark,.int .i64 v.Aid.Light.Kind,.sl (some 2) 1 v.Aid.Light.Group.length (fun j=>[.int .i64 (v.Aid.Light.Group.getD j default)]),.str v.Aid.Light.Letter,.str v.Aid.Light.Colors,.int .i64 v.Aid.Light.Period,.sl (some 180) 3 v.Aid.Sectors.length (fun j=>[.int .i64 ((v.Aid.Sectors.getD j default).From),.int .i64 ((v.Aid.Sectors.getD j default).To),.str ((v.Aid.Sectors.getD j default).Color)]),.int .i64 v.Aid.Intensity]=v:=by simp only[ysb,rdI,rdB,rdS,rdL,ypc,y9c,yag,y1b,yjd,yad,ywb]
theorem y0b (l:List Correction):decL ysb l.length (fun i=>[.int .i64 ((l.getD i default).Kind),.int .i64 (((l.getD i default).Aid).Number),.str (((l.getD i default).Aid).Name),.int .i64 ((((l.getD i default).Aid).At).X),.int .i64 ((((l.getD i default).Aid).At).Y),.int .i64 (((l.getD i default).Aid).Height),.int .i64 ((((l.getD i default).Aid).Mark).Kind),.str ((((l.getD i default).Aid).Mark).Colors),.str ((((l.getD i default).Aid).Mark).Shape),.str ((((l.getD i default).Aid).Mark).Topmark),.int .i64 ((((l.getD i default).Aid).Light).Kind),.sl (some 2) 1 ((((l.getD i default).Aid).Light).Group).length (fun j=>[.int .i64 (((((l.getD i default).Aid).Light).Group).getD j default)]),.str ((((l.getD i default).Aid).Light).Letter),.str ((((l.getD i default).Aid).Light).Colors),.int .i64 ((((l.getD i default).Aid).Light).Period),.sl (some 180) 3 (((l.getD i default).Aid).Sectors).length (fun j=>[.int .i64 (((((l.getD i default).Aid).Sectors).getD j default).From),.int .i64 (((((l.getD i default).Aid).Sectors).getD j default).To),.str (((((l.getD i default).Aid).Sectors).getD j default).Color)]),.int .i64 (((l.getD i default).Aid).Intensity)])=l:=(List.map_congr_left fun i _=>ypd (l.getD i default)).trans (ydb l)
theorem y3e (l:List Correction) (lo n:Nat):decL ysb n (fun i=>[.int .i64 ((l.getD (lo+i) default).Kind),.int .i64 (((l.getD (lo+i) default).Aid).Number),.str (((l.getD (lo+i) default).Aid).Name),.int .i64 ((((l.getD (lo+i) default).Aid).At).X),.int .i64 ((((l.getD (lo+i) default).Aid).At).Y),.int .i64 (((l.getD (lo+i) default).Aid).Height),.int .i64 ((((l.getD (lo+i) default).Aid).Mark).Kind),.str ((((l.getD (lo+i) default).Aid).Mark).Colors),.str ((((l.getD (lo+i) default).Aid).Mark).Shape),.str ((((l.getD (lo+i) default).Aid).Mark).Topmark),.int .i64 ((((l.getD (lo+i) default).Aid).Light).Kind),.sl (some 2) 1 ((((l.getD (lo+i) default).Aid).Light).Group).length (fun j=>[.int .i64 (((((l.getD (lo+i) default).Aid).Light).Group).getD j default)]),.str ((((l.getD (lo+i) default).Aid).Light).Letter),.str ((((l.getD (lo+i) default).Aid).Light).Colors),.int .i64 ((((l.getD (lo+i) default).Aid).Light).Period),.sl (some 180) 3 (((l.getD (lo+i) default).Aid).Sectors).length (fun j=>[.int .i64 (((((l.getD (lo+i) default).Aid).Sectors).getD j default).From),.int .i64 (((((l.getD (lo+i) default).Aid).Sectors).getD j default).To),.str (((((l.getD (lo+i) default).Aid).Sectors).getD j default).Color)]),.int .i64 (((l.getD (lo+i) default).Aid).Intensity)])=subL l lo n:=List.map_congr_left fun i _=>ypd (l.getD (lo+i) default)
theorem y4e (l:List Correction) (n:Nat):decL ysb n (fun i=>[.int .i64 ((l.getD i default).Kind),.int .i64 (((l.getD i default).Aid).Number),.str (((l.getD i default).Aid).Name),.int .i64 ((((l.getD i default).Aid).At).X),.int .i64 ((((l.getD i default).Aid).At).Y),.int .i64 (((l.getD i default).Aid).Height),.int .i64 ((((l.getD i default).Aid).Mark).Kind),.str ((((l.getD i default).Aid).Mark).Colors),.str ((((l.getD i default).Aid).Mark).Shape),.str ((((l.getD i default).Aid).Mark).Topmark),.int .i64 ((((l.getD i default).Aid).Light).Kind),.sl (some 2) 1 ((((l.getD i default).Aid).Light).Group).length (fun j=>[.int .i64 (((((l.getD i default).Aid).Light).Group).getD j default)]),.str ((((l.getD i default).Aid).Light).Letter),.str ((((l.getD i default).Aid).Light).Colors),.int .i64 ((((l.getD i default).Aid).Light).Period),.sl (some 180) 3 (((l.getD i default).Aid).Sectors).length (fun j=>[.int .i64 (((((l.getD i default).Aid).Sectors).getD j default).From),.int .i64 (((((l.getD i default).Aid).Sectors).getD j default).To),.str (((((l.getD i default).Aid).Sectors).getD j default).Color)]),.int .i64 (((l.getD i default).Aid).Intensity)])=subL l 0 n:=by simp only[subL,Nat.zero_add];exact List.map_congr_left fun i _=>ypd (l.getD i default)
theorem y6c (v:Notice):yc [.int .i64 v.Number,.int .i64 v.Day,.int .i64 v.Kind,.int .i64 v.Target,.int .i64 v.Aid.Number,.str v.Aid.Name,.int .i64 v.Aid.At.X,.int .i64 v.Aid.At.Y,.int .i64 v.Aid.Height,.int .i64 v.Aid.Mark.Kind,.str v.Aid.Mark.Colors,.str v.Aid.Mark.Shape,.str v.Aid.Mark.Topmark,.int .i64 v.Aid.Light.Kind,.sl none 1 v.Aid.Light.Group.length (fun j=>[.int .i64 (v.Aid.Light.Group.getD j default)]),.str v.Aid.Light.Letter,.str v.Aid.Light.Colors,.int .i64 v.Aid.Light.Period,.sl none 3 v.Aid.Sectors.length (fun j=>[.int .i64 ((v.Aid.Sectors.getD j default).From),.int .i64 ((v.Aid.Sectors.getD j default).To),.str ((v.Aid.Sectors.getD j default).Color)]),.int .i64 v.Aid.Intensity]=v:=by simp only[yc,rdI,rdB,rdS,rdL,ypc,y9c,yag,y1b,yjd,yad,ywb,y0b]
theorem yud (l:List Notice):decL yc l.length (fun i=>[.int .i64 ((l.getD i default).Number),.int .i64 ((l.getD i default).Day),.int .i64 ((l.getD i default).Kind),.int .i64 ((l.getD i default).Target),.int .i64 (((l.getD i default).Aid).Number),.str (((l.getD i default).Aid).Name),.int .i64 ((((l.getD i default).Aid).At).X),.int .i64 ((((l.getD i default).Aid).At).Y),.int .i64 (((l.getD i default).Aid).Height),.int .i64 ((((l.getD i default).Aid).Mark).Kind),.str ((((l.getD i default).Aid).Mark).Colors),.str ((((l.getD i default).Aid).Mark).Shape),.str ((((l.getD i default).Aid).Mark).Topmark),.int .i64 ((((l.getD i default).Aid).Light).Kind),.sl none 1 ((((l.getD i default).Aid).Light).Group).length (fun j=>[.int .i64 (((((l.getD i default).Aid).Light).Group).getD j default)]),.str ((((l.getD i default).Aid).Light).Letter),.str ((((l.getD i default).Aid).Light).Colors),.int .i64 ((((l.getD i default).Aid).Light).Period),.sl none 3 (((l.getD i default).Aid).Sectors).length (fun j=>[.int .i64 (((((l.getD i default).Aid).Sectors).getD j default).From),.int .i64 (((((l.getD i default).Aid).Sectors).getD j default).To),.str (((((l.getD i default).Aid).Sectors).getD j default).Color)]),.int .i64 (((l.getD i default).Aid).Intensity)])=l:=(List.map_congr_left fun i _=>y6c (l.getD i default)).trans (ydb l)
theorem yej (l:List Notice) (lo n:Nat):decL yc n (fun i=>[.int .i64 ((l.getD (lo+i) default).Number),.int .i64 ((l.getD (lo+i) default).Day),.int .i64 ((l.getD (lo+i) default).Kind),.int .i64 ((l.getD (lo+i) default).Target),.int .i64 (((l.getD (lo+i) default).Aid).Number),.str (((l.getD (lo+i) default).Aid).Name),.int .i64 ((((l.getD (lo+i) default).Aid).At).X),.int .i64 ((((l.getD (lo+i) default).Aid).At).Y),.int .i64 (((l.getD (lo+i) default).Aid).Height),.int .i64 ((((l.getD (lo+i) default).Aid).Mark).Kind),.str ((((l.getD (lo+i) default).Aid).Mark).Colors),.str ((((l.getD (lo+i) default).Aid).Mark).Shape),.str ((((l.getD (lo+i) default).Aid).Mark).Topmark),.int .i64 ((((l.getD (lo+i) default).Aid).Light).Kind),.sl none 1 ((((l.getD (lo+i) default).Aid).Light).Group).length (fun j=>[.int .i64 (((((l.getD (lo+i) default).Aid).Light).Group).getD j default)]),.str ((((l.getD (lo+i) default).Aid).Light).Letter),.str ((((l.getD (lo+i) default).Aid).Light).Colors),.int .i64 ((((l.getD (lo+i) default).Aid).Light).Period),.sl none 3 (((l.getD (lo+i) default).Aid).Sectors).length (fun j=>[.int .i64 (((((l.getD (lo+i) default).Aid).Sectors).getD j default).From),.int .i64 (((((l.getD (lo+i) default).Aid).Sectors).getD j default).To),.str (((((l.getD (lo+i) default).Aid).Sectors).getD j default).Color)]),.int .i64 (((l.getD (lo+i) default).Aid).Intensity)])=subL l lo n:=List.map_congr_left fun i _=>y6c (l.getD (lo+i) default)
theorem yfk (l:List Notice) (n:Nat):decL yc n (fun i=>[.int .i64 ((l.getD i default).Number),.int .i64 ((l.getD i default).Day),.int .i64 ((l.getD i default).Kind),.int .i64 ((l.getD i default).Target),.int .i64 (((l.getD i default).Aid).Number),.str (((l.getD i default).Aid).Name),.int .i64 ((((l.getD i default).Aid).At).X),.int .i64 ((((l.getD i default).Aid).At).Y),.int .i64 (((l.getD i default).Aid).Height),.int .i64 ((((l.getD i default).Aid).Mark).Kind),.str ((((l.getD i default).Aid).Mark).Colors),.str ((((l.getD i default).Aid).Mark).Shape),.str ((((l.getD i default).Aid).Mark).Topmark),.int .i64 ((((l.getD i default).Aid).Light).Kind),.sl none 1 ((((l.getD i default).Aid).Light).Group).length (fun j=>[.int .i64 (((((l.getD i default).Aid).Light).Group).getD j default)]),.str ((((l.getD i default).Aid).Light).Letter),.str ((((l.getD i default).Aid).Light).Colors),.int .i64 ((((l.getD i default).Aid).Light).Period),.sl none 3 (((l.getD i default).Aid).Sectors).length (fun j=>[.int .i64 (((((l.getD i default).Aid).Sectors).getD j default).From),.int .i64 (((((l.getD i default).Aid).Sectors).getD j default).To),.str (((((l.getD i default).Aid).Sectors).getD j default).Color)]),.int .i64 (((l.getD i default).Aid).Intensity)])=subL l 0 n:=by simp only[subL,Nat.zero_add];exact List.map_congr_left fun i _=>y6c (l.getD i default)
theorem yog (v:Notice):yc [.int .i64 v.Number,.int .i64 v.Day,.int .i64 v.Kind,.int .i64 v.Target,.int .i64 v.Aid.Number,.str v.Aid.Name,.int .i64 v.Aid.At.X,.int .i64 v.Aid.At.Y,.int .i64 v.Aid.Height,.int .i64 v.Aid.Mark.Kind,.str v.Aid.Mark.Colors,.str v.Aid.Mark.Shape,.str v.Aid.Mark.Topmark,.int .i64 v.Aid.Light.Kind,.sl (some 2) 1 v.Aid.Light.Group.length (fun j=>[.int .i64 (v.Aid.Light.Group.getD j default)]),.str v.Aid.Light.Letter,.str v.Aid.Light.Colors,.int .i64 v.Aid.Light.Period,.sl (some 180) 3 v.Aid.Sectors.length (fun j=>[.int .i64 ((v.Aid.Sectors.getD j default).From),.int .i64 ((v.Aid.Sectors.getD j default).To),.str ((v.Aid.Sectors.getD j default).Color)]),.int .i64 v.Aid.Intensity]=v:=by simp only[yc,rdI,rdB,rdS,rdL,ypc,y9c,yag,y1b,yjd,yad,ywb,y0b,yud]
theorem y4d (l:List Notice):decL yc l.length (fun i=>[.int .i64 ((l.getD i default).Number),.int .i64 ((l.getD i default).Day),.int .i64 ((l.getD i default).Kind),.int .i64 ((l.getD i default).Target),.int .i64 (((l.getD i default).Aid).Number),.str (((l.getD i default).Aid).Name),.int .i64 ((((l.getD i default).Aid).At).X),.int .i64 ((((l.getD i default).Aid).At).Y),.int .i64 (((l.getD i default).Aid).Height),.int .i64 ((((l.getD i default).Aid).Mark).Kind),.str ((((l.getD i default).Aid).Mark).Colors),.str ((((l.getD i default).Aid).Mark).Shape),.str ((((l.getD i default).Aid).Mark).Topmark),.int .i64 ((((l.getD i default).Aid).Light).Kind),.sl (some 2) 1 ((((l.getD i default).Aid).Light).Group).length (fun j=>[.int .i64 (((((l.getD i default).Aid).Light).Group).getD j default)]),.str ((((l.getD i default).Aid).Light).Letter),.str ((((l.getD i default).Aid).Light).Colors),.int .i64 ((((l.getD i default).Aid).Light).Period),.sl (some 180) 3 (((l.getD i default).Aid).Sectors).length (fun j=>[.int .i64 (((((l.getD i default).Aid).Sectors).getD j default).From),.int .i64 (((((l.getD i default).Aid).Sectors).getD j default).To),.str (((((l.getD i default).Aid).Sectors).getD j default).Color)]),.int .i64 (((l.getD i default).Aid).Intensity)])=l:=(List.map_congr_left fun i _=>yog (l.getD i default)).trans (ydb l)
theorem y9h (l:List Notice) (lo n:Nat):decL yc n (fun i=>[.int .i64 ((l.getD (lo+i) default).Number),.int .i64 ((l.getD (lo+i) default).Day),.int .i64 ((l.getD (lo+i) default).Kind),.int .i64 ((l.getD (lo+i) default).Target),.int .i64 (((l.getD (lo+i) default).Aid).Number),.str (((l.getD (lo+i) default).Aid).Name),.int .i64 ((((l.getD (lo+i) default).Aid).At).X),.int .i64 ((((l.getD (lo+i) default).Aid).At).Y),.int .i64 (((l.getD (lo+i) default).Aid).Height),.int .i64 ((((l.getD (lo+i) default).Aid).Mark).Kind),.str ((((l.getD (lo+i) default).Aid).Mark).Colors),.str ((((l.getD (lo+i) default).Aid).Mark).Shape),.str ((((l.getD (lo+i) default).Aid).Mark).Topmark),.int .i64 ((((l.getD (lo+i) default).Aid).Light).Kind),.sl (some 2) 1 ((((l.getD (lo+i) default).Aid).Light).Group).length (fun j=>[.int .i64 (((((l.getD (lo+i) default).Aid).Light).Group).getD j default)]),.str ((((l.getD (lo+i) default).Aid).Light).Letter),.str ((((l.getD (lo+i) default).Aid).Light).Colors),.int .i64 ((((l.getD (lo+i) default).Aid).Light).Period),.sl (some 180) 3 (((l.getD (lo+i) default).Aid).Sectors).length (fun j=>[.int .i64 (((((l.getD (lo+i) default).Aid).Sectors).getD j default).From),.int .i64 (((((l.getD (lo+i) default).Aid).Sectors).getD j default).To),.str (((((l.getD (lo+i) default).Aid).Sectors).getD j default).Color)]),.int .i64 (((l.getD (lo+i) default).Aid).Intensity)])=subL l lo n:=List.map_congr_left fun i _=>yog (l.getD (lo+i) default)
theorem yji (l:List Notice) (n:Nat):decL yc n (fun i=>[.int .i64 ((l.getD i default).Number),.int .i64 ((l.getD i default).Day),.int .i64 ((l.getD i default).Kind),.int .i64 ((l.getD i default).Target),.int .i64 (((l.getD i default).Aid).Number),.str (((l.getD i default).Aid).Name),.int .i64 ((((l.getD i default).Aid).At).X),.int .i64 ((((l.getD i default).Aid).At).Y),.int .i64 (((l.getD i default).Aid).Height),.int .i64 ((((l.getD i default).Aid).Mark).Kind),.str ((((l.getD i default).Aid).Mark).Colors),.str ((((l.getD i default).Aid).Mark).Shape),.str ((((l.getD i default).Aid).Mark).Topmark),.int .i64 ((((l.getD i default).Aid).Light).Kind),.sl (some 2) 1 ((((l.getD i default).Aid).Light).Group).length (fun j=>[.int .i64 (((((l.getD i default).Aid).Light).Group).getD j default)]),.str ((((l.getD i default).Aid).Light).Letter),.str ((((l.getD i default).Aid).Light).Colors),.int .i64 ((((l.getD i default).Aid).Light).Period),.sl (some 180) 3 (((l.getD i default).Aid).Sectors).length (fun j=>[.int .i64 (((((l.getD i default).Aid).Sectors).getD j default).From),.int .i64 (((((l.getD i default).Aid).Sectors).getD j default).To),.str (((((l.getD i default).Aid).Sectors).getD j default).Color)]),.int .i64 (((l.getD i default).Aid).Intensity)])=subL l 0 n:=by simp only[subL,Nat.zero_add];exact List.map_congr_left fun i _=>yog (l.getD i default)
theorem yhn (v:(List Aid)):ypi [.sl none 16 v.length (fun j=>[.int .i64 ((v.getD j default).Number),.str ((v.getD j default).Name),.int .i64 (((v.getD j default).At).X),.int .i64 (((v.getD j default).At).Y),.int .i64 ((v.getD j default).Height),.int .i64 (((v.getD j default).Mark).Kind),.str (((v.getD j default).Mark).Colors),.str (((v.getD j default).Mark).Shape),.str (((v.getD j default).Mark).Topmark),.int .i64 (((v.getD j default).Light).Kind),.sl none 1 (((v.getD j default).Light).Group).length (fun j1=>[.int .i64 ((((v.getD j default).Light).Group).getD j1 default)]),.str (((v.getD j default).Light).Letter),.str (((v.getD j default).Light).Colors),.int .i64 (((v.getD j default).Light).Period),.sl none 3 ((v.getD j default).Sectors).length (fun j1=>[.int .i64 ((((v.getD j default).Sectors).getD j1 default).From),.int .i64 ((((v.getD j default).Sectors).getD j1 default).To),.str ((((v.getD j default).Sectors).getD j1 default).Color)]),.int .i64 ((v.getD j default).Intensity)])]=v:=by simp only[ypi,rdI,rdB,rdS,rdL,ypc,y9c,yag,y1b,yjd,yad,ywb,y0b,yud,y4d]
theorem yyk (l:List (List Aid)):decL ypi l.length (fun i=>[.sl none 16 (l.getD i default).length (fun j=>[.int .i64 (((l.getD i default).getD j default).Number),.str (((l.getD i default).getD j default).Name),.int .i64 ((((l.getD i default).getD j default).At).X),.int .i64 ((((l.getD i default).getD j default).At).Y),.int .i64 (((l.getD i default).getD j default).Height),.int .i64 ((((l.getD i default).getD j default).Mark).Kind),.str ((((l.getD i default).getD j default).Mark).Colors),.str ((((l.getD i default).getD j default).Mark).Shape),.str ((((l.getD i default).getD j default).Mark).Topmark),.int .i64 ((((l.getD i default).getD j default).Light).Kind),.sl none 1 ((((l.getD i default).getD j default).Light).Group).length (fun j1=>[.int .i64 (((((l.getD i default).getD j default).Light).Group).getD j1 default)]),.str ((((l.getD i default).getD j default).Light).Letter),.str ((((l.getD i default).getD j default).Light).Colors),.int .i64 ((((l.getD i default).getD j default).Light).Period),.sl none 3 (((l.getD i default).getD j default).Sectors).length (fun j1=>[.int .i64 (((((l.getD i default).getD j default).Sectors).getD j1 default).From),.int .i64 (((((l.getD i default).getD j default).Sectors).getD j1 default).To),.str (((((l.getD i default).getD j default).Sectors).getD j1 default).Color)]),.int .i64 (((l.getD i default).getD j default).Intensity)])])=l:=(List.map_congr_left fun i _=>yhn (l.getD i default)).trans (ydb l)
theorem yoo (l:List (List Aid)) (lo n:Nat):decL ypi n (fun i=>[.sl none 16 (l.getD (lo+i) default).length (fun j=>[.int .i64 (((l.getD (lo+i) default).getD j default).Number),.str (((l.getD (lo+i) default).getD j default).Name),.int .i64 ((((l.getD (lo+i) default).getD j default).At).X),.int .i64 ((((l.getD (lo+i) default).getD j default).At).Y),.int .i64 (((l.getD (lo+i) default).getD j default).Height),.int .i64 ((((l.getD (lo+i) default).getD j default).Mark).Kind),.str ((((l.getD (lo+i) default).getD j default).Mark).Colors),.str ((((l.getD (lo+i) default).getD j default).Mark).Shape),.str ((((l.getD (lo+i) default).getD j default).Mark).Topmark),.int .i64 ((((l.getD (lo+i) default).getD j default).Light).Kind),.sl none 1 ((((l.getD (lo+i) default).getD j default).Light).Group).length (fun j1=>[.int .i64 (((((l.getD (lo+i) default).getD j default).Light).Group).getD j1 default)]),.str ((((l.getD (lo+i) default).getD j default).Light).Letter),.str ((((l.getD (lo+i) default).getD j default).Light).Colors),.int .i64 ((((l.getD (lo+i) default).getD j default).Light).Period),.sl none 3 (((l.getD (lo+i) default).getD j default).Sectors).length (fun j1=>[.int .i64 (((((l.getD (lo+i) default).getD j default).Sectors).getD j1 default).From),.int .i64 (((((l.getD (lo+i) default).getD j default).Sectors).getD j1 default).To),.str (((((l.getD (lo+i) default).getD j default).Sectors).getD j1 default).Color)]),.int .i64 (((l.getD (lo+i) default).getD j default).Intensity)])])=subL l lo n:=List.map_congr_left fun i _=>yhn (l.getD (lo+i) default)
theorem ycq (l:List (List Aid)) (n:Nat):decL ypi n (fun i=>[.sl none 16 (l.getD i default).length (fun j=>[.int .i64 (((l.getD i default).getD j default).Number),.str (((l.getD i default).getD j default).Name),.int .i64 ((((l.getD i default).getD j default).At).X),.int .i64 ((((l.getD i default).getD j default).At).Y),.int .i64 (((l.getD i default).getD j default).Height),.int .i64 ((((l.getD i default).getD j default).Mark).Kind),.str ((((l.getD i default).getD j default).Mark).Colors),.str ((((l.getD i default).getD j default).Mark).Shape),.str ((((l.getD i default).getD j default).Mark).Topmark),.int .i64 ((((l.getD i default).getD j default).Light).Kind),.sl none 1 ((((l.getD i default).getD j default).Light).Group).length (fun j1=>[.int .i64 (((((l.getD i default).getD j default).Light).Group).getD j1 default)]),.str ((((l.getD i default).getD j default).Light).Letter),.str ((((l.getD i default).getD j default).Light).Colors),.int .i64 ((((l.getD i default).getD j default).Light).Period),.sl none 3 (((l.getD i default).getD j default).Sectors).length (fun j1=>[.int .i64 (((((l.getD i default).getD j default).Sectors).getD j1 default).From),.int .i64 (((((l.getD i default).getD j default).Sectors).getD j1 default).To),.str (((((l.getD i default).getD j default).Sectors).getD j1 default).Color)]),.int .i64 (((l.getD i default).getD j default).Intensity)])])=subL l 0 n:=by simp only[subL,Nat.zero_add];exact List.map_congr_left fun i _=>yhn (l.getD i default)
theorem yij (v:(List Aid)):ypi [.sl (some 63) 16 v.length (fun j=>[.int .i64 ((v.getD j default).Number),.str ((v.getD j default).Name),.int .i64 (((v.getD j default).At).X),.int .i64 (((v.getD j default).At).Y),.int .i64 ((v.getD j default).Height),.int .i64 (((v.getD j default).Mark).Kind),.str (((v.getD j default).Mark).Colors),.str (((v.getD j default).Mark).Shape),.str (((v.getD j default).Mark).Topmark),.int .i64 (((v.getD j default).Light).Kind),.sl (some 2) 1 (((v.getD j default).Light).Group).length (fun j1=>[.int .i64 ((((v.getD j default).Light).Group).getD j1 default)]),.str (((v.getD j default).Light).Letter),.str (((v.getD j default).Light).Colors),.int .i64 (((v.getD j default).Light).Period),.sl (some 180) 3 ((v.getD j default).Sectors).length (fun j1=>[.int .i64 ((((v.getD j default).Sectors).getD j1 default).From),.int .i64 ((((v.getD j default).Sectors).getD j1 default).To),.str ((((v.getD j default).Sectors).getD j1 default).Color)]),.int .i64 ((v.getD j default).Intensity)])]=v:=by simp only[ypi,rdI,rdB,rdS,rdL,ypc,y9c,yag,y1b,yjd,yad,ywb,y0b,yud,y4d,yyk]
theorem ywl (l:List (List Aid)):decL ypi l.length (fun i=>[.sl (some 63) 16 (l.getD i default).length (fun j=>[.int .i64 (((l.getD i default).getD j default).Number),.str (((l.getD i default).getD j default).Name),.int .i64 ((((l.getD i default).getD j default).At).X),.int .i64 ((((l.getD i default).getD j default).At).Y),.int .i64 (((l.getD i default).getD j default).Height),.int .i64 ((((l.getD i default).getD j default).Mark).Kind),.str ((((l.getD i default).getD j default).Mark).Colors),.str ((((l.getD i default).getD j default).Mark).Shape),.str ((((l.getD i default).getD j default).Mark).Topmark),.int .i64 ((((l.getD i default).getD j default).Light).Kind),.sl (some 2) 1 ((((l.getD i default).getD j default).Light).Group).length (fun j1=>[.int .i64 (((((l.getD i default).getD j default).Light).Group).getD j1 default)]),.str ((((l.getD i default).getD j default).Light).Letter),.str ((((l.getD i default).getD j default).Light).Colors),.int .i64 ((((l.getD i default).getD j default).Light).Period),.sl (some 180) 3 (((l.getD i default).getD j default).Sectors).length (fun j1=>[.int .i64 (((((l.getD i default).getD j default).Sectors).getD j1 default).From),.int .i64 (((((l.getD i default).getD j default).Sectors).getD j1 default).To),.str (((((l.getD i default).getD j default).Sectors).getD j1 default).Color)]),.int .i64 (((l.getD i default).getD j default).Intensity)])])=l:=(List.map_congr_left fun i _=>yij (l.getD i default)).trans (ydb l)
theorem y2l (l:List (List Aid)) (lo n:Nat):decL ypi n (fun i=>[.sl (some 63) 16 (l.getD (lo+i) default).length (fun j=>[.int .i64 (((l.getD (lo+i) default).getD j default).Number),.str (((l.getD (lo+i) default).getD j default).Name),.int .i64 ((((l.getD (lo+i) default).getD j default).At).X),.int .i64 ((((l.getD (lo+i) default).getD j default).At).Y),.int .i64 (((l.getD (lo+i) default).getD j default).Height),.int .i64 ((((l.getD (lo+i) default).getD j default).Mark).Kind),.str ((((l.getD (lo+i) default).getD j default).Mark).Colors),.str ((((l.getD (lo+i) default).getD j default).Mark).Shape),.str ((((l.getD (lo+i) default).getD j default).Mark).Topmark),.int .i64 ((((l.getD (lo+i) default).getD j default).Light).Kind),.sl (some 2) 1 ((((l.getD (lo+i) default).getD j default).Light).Group).length (fun j1=>[.int .i64 (((((l.getD (lo+i) default).getD j default).Light).Group).getD j1 default)]),.str ((((l.getD (lo+i) default).getD j default).Light).Letter),.str ((((l.getD (lo+i) default).getD j default).Light).Colors),.int .i64 ((((l.getD (lo+i) default).getD j default).Light).Period),.sl (some 180) 3 (((l.getD (lo+i) default).getD j default).Sectors).length (fun j1=>[.int .i64 (((((l.getD (lo+i) default).getD j default).Sectors).getD j1 default).From),.int .i64 (((((l.getD (lo+i) default).getD j default).Sectors).getD j1 default).To),.str (((((l.getD (lo+i) default).getD j default).Sectors).getD j1 default).Color)]),.int .i64 (((l.getD (lo+i) default).getD j default).Intensity)])])=subL l lo n:=List.map_congr_left fun i _=>yij (l.getD (lo+i) default)
theorem yhl (l:List (List Aid)) (n:Nat):decL ypi n (fun i=>[.sl (some 63) 16 (l.getD i default).length (fun j=>[.int .i64 (((l.getD i default).getD j default).Number),.str (((l.getD i default).getD j default).Name),.int .i64 ((((l.getD i default).getD j default).At).X),.int .i64 ((((l.getD i default).getD j default).At).Y),.int .i64 (((l.getD i default).getD j default).Height),.int .i64 ((((l.getD i default).getD j default).Mark).Kind),.str ((((l.getD i default).getD j default).Mark).Colors),.str ((((l.getD i default).getD j default).Mark).Shape),.str ((((l.getD i default).getD j default).Mark).Topmark),.int .i64 ((((l.getD i default).getD j default).Light).Kind),.sl (some 2) 1 ((((l.getD i default).getD j default).Light).Group).length (fun j1=>[.int .i64 (((((l.getD i default).getD j default).Light).Group).getD j1 default)]),.str ((((l.getD i default).getD j default).Light).Letter),.str ((((l.getD i default).getD j default).Light).Colors),.int .i64 ((((l.getD i default).getD j default).Light).Period),.sl (some 180) 3 (((l.getD i default).getD j default).Sectors).length (fun j1=>[.int .i64 (((((l.getD i default).getD j default).Sectors).getD j1 default).From),.int .i64 (((((l.getD i default).getD j default).Sectors).getD j1 default).To),.str (((((l.getD i default).getD j default).Sectors).getD j1 default).Color)]),.int .i64 (((l.getD i default).getD j default).Intensity)])])=subL l 0 n:=by simp only[subL,Nat.zero_add];exact List.map_congr_left fun i _=>yij (l.getD i default)
def bdS (v:List UInt8):Prop:=v.length<1099511627776
instance:DecidablePred bdS:=fun v=>inferInstanceAs (Decidable (v.length<1099511627776))
def bdMark (v:Mark):Prop:=bdS v.Colors∧bdS v.Shape∧bdS v.Topmark
instance:DecidablePred bdMark:=fun v=>by unfold bdMark;infer_instance
def bdLIi64 (v:(List Int)):Prop:=v.length<1099511627776
instance:DecidablePred bdLIi64:=fun v=>by unfold bdLIi64;infer_instance
def bdCharacter (v:Character):Prop:=bdLIi64 v.Group∧bdS v.Letter∧bdS v.Colors
instance:DecidablePred bdCharacter:=fun v=>by unfold bdCharacter;infer_instance
def bdSector (v:Sector):Prop:=bdS v.Color
instance:DecidablePred bdSector:=fun v=>by unfold bdSector;infer_instance
def bdLSector (v:(List Sector)):Prop:=v.length<1099511627776∧∀ x∈v,bdSector x
instance:DecidablePred bdLSector:=fun v=>by unfold bdLSector;infer_instance
def bdAid (v:Aid):Prop:=bdS v.Name∧bdMark v.Mark∧bdCharacter v.Light∧bdLSector v.Sectors
instance:DecidablePred bdAid:=fun v=>by unfold bdAid;infer_instance
def bdNotice (v:Notice):Prop:=bdAid v.Aid
instance:DecidablePred bdNotice:=fun v=>by unfold bdNotice;infer_instance
def bdCorrection (v:Correction):Prop:=bdAid v.Aid
instance:DecidablePred bdCorrection:=fun v=>by unfold bdCorrection;infer_instance
def bdstate (v:state):Prop:=bdAid v.aid
instance:DecidablePred bdstate:=fun v=>by unfold bdstate;infer_instance
def bdLAid (v:(List Aid)):Prop:=v.length<1099511627776∧∀ x∈v,bdAid x
instance:DecidablePred bdLAid:=fun v=>by unfold bdLAid;infer_instance
def bdEdition (v:Edition):Prop:=bdLAid v.Aids
instance:DecidablePred bdEdition:=fun v=>by unfold bdEdition;infer_instance
def bwS (v:List UInt8):Prop:=v.length<9223372036854775808
instance:DecidablePred bwS:=fun v=>inferInstanceAs (Decidable (v.length<9223372036854775808))
def bwMark (v:Mark):Prop:=bwS v.Colors∧bwS v.Shape∧bwS v.Topmark
instance:DecidablePred bwMark:=fun v=>by unfold bwMark;infer_instance
def bwLIi64 (v:(List Int)):Prop:=v.length<9223372036854775808
instance:DecidablePred bwLIi64:=fun v=>by unfold bwLIi64;infer_instance
def bwCharacter (v:Character):Prop:=bwLIi64 v.Group∧bwS v.Letter∧bwS v.Colors
instance:DecidablePred bwCharacter:=fun v=>by unfold bwCharacter;infer_instance
def bwSector (v:Sector):Prop:=bwS v.Color
instance:DecidablePred bwSector:=fun v=>by unfold bwSector;infer_instance
def bwLSector (v:(List Sector)):Prop:=v.length<9223372036854775808∧∀ x∈v,bwSector x
instance:DecidablePred bwLSector:=fun v=>by unfold bwLSector;infer_instance
def bwAid (v:Aid):Prop:=bwS v.Name∧bwMark v.Mark∧bwCharacter v.Light∧bwLSector v.Sectors
instance:DecidablePred bwAid:=fun v=>by unfold bwAid;infer_instance
def bwNotice (v:Notice):Prop:=bwAid v.Aid
instance:DecidablePred bwNotice:=fun v=>by unfold bwNotice;infer_instance
def bwCorrection (v:Correction):Prop:=bwAid v.Aid
instance:DecidablePred bwCorrection:=fun v=>by unfold bwCorrection;infer_instance
def bwstate (v:state):Prop:=bwAid v.aid
instance:DecidablePred bwstate:=fun v=>by unfold bwstate;infer_instance
def bwLAid (v:(List Aid)):Prop:=v.length<9223372036854775808∧∀ x∈v,bwAid x
instance:DecidablePred bwLAid:=fun v=>by unfold bwLAid;infer_instance
def bwEdition (v:Edition):Prop:=bwLAid v.Aids
instance:DecidablePred bwEdition:=fun v=>by unfold bwEdition;infer_instance
theorem yjx (v:List UInt8) (h:y2c [.str v]):bwS v:=Nat.lt_succ_of_le h.1
theorem ysd (v:Mark) (h:y2c (eMark v)):bwMark v:=⟨Nat.lt_succ_of_le h.2.1,Nat.lt_succ_of_le h.2.2.1,Nat.lt_succ_of_le h.2.2.2.1⟩
theorem yq (v:Character) (h:y2c (eCharacter v)):bwCharacter v:=⟨Nat.lt_succ_of_le (yb h.2.1).1,Nat.lt_succ_of_le h.2.2.1,Nat.lt_succ_of_le h.2.2.2.1⟩
theorem yjj (v:Character) (h:y2c (y7b v)):bwCharacter v:=⟨Nat.lt_succ_of_le (yub h.2.1).1,Nat.lt_succ_of_le h.2.2.1,Nat.lt_succ_of_le h.2.2.2.1⟩
theorem yr (v:Sector) (h:y2c (eSector v)):bwSector v:=Nat.lt_succ_of_le h.2.2.1
theorem yt (v:Aid) (h:y2c (eAid v)):bwAid v:=⟨Nat.lt_succ_of_le h.2.1,⟨Nat.lt_succ_of_le h.2.2.2.2.2.2.1,Nat.lt_succ_of_le h.2.2.2.2.2.2.2.1,Nat.lt_succ_of_le h.2.2.2.2.2.2.2.2.1⟩,⟨Nat.lt_succ_of_le (yb h.2.2.2.2.2.2.2.2.2.2.1).1,Nat.lt_succ_of_le h.2.2.2.2.2.2.2.2.2.2.2.1,Nat.lt_succ_of_le h.2.2.2.2.2.2.2.2.2.2.2.2.1⟩,⟨Nat.lt_succ_of_le (yb h.2.2.2.2.2.2.2.2.2.2.2.2.2.2.1).1,fun y hy=>yr y ((yb h.2.2.2.2.2.2.2.2.2.2.2.2.2.2.1).2 y hy)⟩⟩
theorem y9i (v:Aid) (h:y2c (ygb v)):bwAid v:=⟨Nat.lt_succ_of_le h.2.1,⟨Nat.lt_succ_of_le h.2.2.2.2.2.2.1,Nat.lt_succ_of_le h.2.2.2.2.2.2.2.1,Nat.lt_succ_of_le h.2.2.2.2.2.2.2.2.1⟩,⟨Nat.lt_succ_of_le (yub h.2.2.2.2.2.2.2.2.2.2.1).1,Nat.lt_succ_of_le h.2.2.2.2.2.2.2.2.2.2.2.1,Nat.lt_succ_of_le h.2.2.2.2.2.2.2.2.2.2.2.2.1⟩,⟨Nat.lt_succ_of_le (yub h.2.2.2.2.2.2.2.2.2.2.2.2.2.2.1).1,fun y hy=>yr y ((yub h.2.2.2.2.2.2.2.2.2.2.2.2.2.2.1).2 y hy)⟩⟩
theorem yg (v:Notice) (h:y2c (eNotice v)):bwNotice v:=⟨Nat.lt_succ_of_le h.2.2.2.2.2.1,⟨Nat.lt_succ_of_le h.2.2.2.2.2.2.2.2.2.2.1,Nat.lt_succ_of_le h.2.2.2.2.2.2.2.2.2.2.2.1,Nat.lt_succ_of_le h.2.2.2.2.2.2.2.2.2.2.2.2.1⟩,⟨Nat.lt_succ_of_le (yb h.2.2.2.2.2.2.2.2.2.2.2.2.2.2.1).1,Nat.lt_succ_of_le h.2.2.2.2.2.2.2.2.2.2.2.2.2.2.2.1,Nat.lt_succ_of_le h.2.2.2.2.2.2.2.2.2.2.2.2.2.2.2.2.1⟩,⟨Nat.lt_succ_of_le (yb h.2.2.2.2.2.2.2.2.2.2.2.2.2.2.2.2.2.2.1).1,fun y hy=>yr y ((yb h.2.2.2.2.2.2.2.2.2.2.2.2.2.2.2.2.2.2.1).2 y hy)⟩⟩
theorem yhi (v:Notice) (h:y2c (ybb v)):bwNotice v:=⟨Nat.lt_succ_of_le h.2.2.2.2.2.1,⟨Nat.lt_succ_of_le h.2.2.2.2.2.2.2.2.2.2.1,Nat.lt_succ_of_le h.2.2.2.2.2.2.2.2.2.2.2.1,Nat.lt_succ_of_le h.2.2.2.2.2.2.2.2.2.2.2.2.1⟩,⟨Nat.lt_succ_of_le (yub h.2.2.2.2.2.2.2.2.2.2.2.2.2.2.1).1,Nat.lt_succ_of_le h.2.2.2.2.2.2.2.2.2.2.2.2.2.2.2.1,Nat.lt_succ_of_le h.2.2.2.2.2.2.2.2.2.2.2.2.2.2.2.2.1⟩,⟨Nat.lt_succ_of_le (yub h.2.2.2.2.2.2.2.2.2.2.2.2.2.2.2.2.2.2.1).1,fun y hy=>yr y ((yub h.2.2.2.2.2.2.2.2.2.2.2.2.2.2.2.2.2.2.1).2 y hy)⟩⟩
theorem yob (v:Edition) (h:y2c (eEdition v)):bwEdition v:=⟨Nat.lt_succ_of_le (yb h.2.2.1).1,fun y hy=>yt y ((yb h.2.2.1).2 y hy)⟩
theorem y7m (v:Edition) (h:y2c (yhc v)):bwEdition v:=⟨Nat.lt_succ_of_le (yub h.2.2.1).1,fun y hy=>y9i y ((yub h.2.2.1).2 y hy)⟩
theorem fl5 (p:Nat→Prop):(∀ i,i<5→p i)=(p 0∧p 1∧p 2∧p 3∧p 4):=by
 apply propext
 refine⟨fun h=>⟨h 0 (by omega),h 1 (by omega),h 2 (by omega),h 3 (by omega),h 4 (by omega)⟩,fun h i hi => ?_⟩
 obtain⟨h0,h1,h2,h3,h4⟩:=h
 have hc:i=0∨i=1∨i=2∨i=3∨i=4:=by omega
 rcases hc with rfl|rfl|rfl|rfl|rfl<;>assumption
theorem ya2 {α:Type} (d:List AV→α) (f:Nat→List AV):decL d 5 f=[d (f 0),d (f 1),d (f 2),d (f 3),d (f 4)]:=rfl
theorem fl6 (p:Nat→Prop):(∀ i,i<6→p i)=(p 0∧p 1∧p 2∧p 3∧p 4∧p 5):=by
 apply propext
 refine⟨fun h=>⟨h 0 (by omega),h 1 (by omega),h 2 (by omega),h 3 (by omega),h 4 (by omega),h 5 (by omega)⟩,fun h i hi => ?_⟩
 obtain⟨h0,h1,h2,h3,h4,h5⟩:=h
 have hc:i=0∨i=1∨i=2∨i=3∨i=4∨i=5:=by omega
 rcases hc with rfl|rfl|rfl|rfl|rfl|rfl<;>assumption
theorem y61 {α:Type} (d:List AV→α) (f:Nat→List AV):decL d 6 f=[d (f 0),d (f 1),d (f 2),d (f 3),d (f 4),d (f 5)]:=rfl
theorem fl7 (p:Nat→Prop):(∀ i,i<7→p i)=(p 0∧p 1∧p 2∧p 3∧p 4∧p 5∧p 6):=by
 apply propext
 refine⟨fun h=>⟨h 0 (by omega),h 1 (by omega),h 2 (by omega),h 3 (by omega),h 4 (by omega),h 5 (by omega),h 6 (by omega)⟩,fun h i hi => ?_⟩
 obtain⟨h0,h1,h2,h3,h4,h5,h6⟩:=h
 have hc:i=0∨i=1∨i=2∨i=3∨i=4∨i=5∨i=6:=by omega
 rcases hc with rfl|rfl|rfl|rfl|rfl|rfl|rfl<;>assumption
theorem ye2 {α:Type} (d:List AV→α) (f:Nat→List AV):decL d 7 f=[d (f 0),d (f 1),d (f 2),d (f 3),d (f 4),d (f 5),d (f 6)]:=rfl
theorem fl8 (p:Nat→Prop):(∀ i,i<8→p i)=(p 0∧p 1∧p 2∧p 3∧p 4∧p 5∧p 6∧p 7):=by
 apply propext
 refine⟨fun h=>⟨h 0 (by omega),h 1 (by omega),h 2 (by omega),h 3 (by omega),h 4 (by omega),h 5 (by omega),h 6 (by omega),h 7 (by omega)⟩,fun h i hi => ?_⟩
 obtain⟨h0,h1,h2,h3,h4,h5,h6,h7⟩:=h
 have hc:i=0∨i=1∨i=2∨i=3∨i=4∨i=5∨i=6∨i=7:=by omega
 rcases hc with rfl|rfl|rfl|rfl|rfl|rfl|rfl|rfl<;>assumption
theorem yb2 {α:Type} (d:List AV→α) (f:Nat→List AV):decL d 8 f=[d (f 0),d (f 1),d (f 2),d (f 3),d (f 4),d (f 5),d (f 6),d (f 7)]:=rfl
theorem yc4 {α:Type} [Inhabited α] (x0 x1:α):subL [x0,x1] 0 2=[x0,x1]:=rfl
theorem y83 {α:Type} [Inhabited α] (x0 x1 x2:α):subL [x0,x1,x2] 0 3=[x0,x1,x2]:=rfl
theorem ya4 {α:Type} [Inhabited α] (x0 x1 x2 x3:α):subL [x0,x1,x2,x3] 0 4=[x0,x1,x2,x3]:=rfl
theorem y13 {α:Type} [Inhabited α] (x0 x1 x2 x3 x4:α):subL [x0,x1,x2,x3,x4] 0 5=[x0,x1,x2,x3,x4]:=rfl
theorem ye4 {α:Type} [Inhabited α] (x0 x1 x2 x3 x4 x5:α):subL [x0,x1,x2,x3,x4,x5] 0 6=[x0,x1,x2,x3,x4,x5]:=rfl
theorem y93 {α:Type} [Inhabited α] (x0 x1 x2 x3 x4 x5 x6:α):subL [x0,x1,x2,x3,x4,x5,x6] 0 7=[x0,x1,x2,x3,x4,x5,x6]:=rfl
theorem yd4 {α:Type} [Inhabited α] (x0 x1 x2 x3 x4 x5 x6 x7:α):subL [x0,x1,x2,x3,x4,x5,x6,x7] 0 8=[x0,x1,x2,x3,x4,x5,x6,x7]:=rfl
theorem yz3 {α:Type} [Inhabited α] (x0 x1 x2 x3 x4 x5 x6 x7 x8:α):subL [x0,x1,x2,x3,x4,x5,x6,x7,x8] 0 9=[x0,x1,x2,x3,x4,x5,x6,x7,x8]:=rfl
theorem yf2 {α:Type} [Inhabited α] (x0 x1 x2 x3 x4 x5 x6 x7 x8 x9:α):subL [x0,x1,x2,x3,x4,x5,x6,x7,x8,x9] 0 10=[x0,x1,x2,x3,x4,x5,x6,x7,x8,x9]:=rfl
theorem yk2 {α:Type} [Inhabited α] (x0 x1 x2 x3 x4 x5 x6 x7 x8 x9 x10:α):subL [x0,x1,x2,x3,x4,x5,x6,x7,x8,x9,x10] 0 11=[x0,x1,x2,x3,x4,x5,x6,x7,x8,x9,x10]:=rfl
theorem yw1 {α:Type} [Inhabited α] (x0 x1 x2 x3 x4 x5 x6 x7 x8 x9 x10 x11:α):subL [x0,x1,x2,x3,x4,x5,x6,x7,x8,x9,x10,x11] 0 12=[x0,x1,x2,x3,x4,x5,x6,x7,x8,x9,x10,x11]:=rfl
theorem y51 {α:Type} [Inhabited α] (x0 x1 x2 x3 x4 x5 x6 x7 x8 x9 x10 x11 x12:α):subL [x0,x1,x2,x3,x4,x5,x6,x7,x8,x9,x10,x11,x12] 0 13=[x0,x1,x2,x3,x4,x5,x6,x7,x8,x9,x10,x11,x12]:=rfl
theorem y81 {α:Type} [Inhabited α] (x0 x1 x2 x3 x4 x5 x6 x7 x8 x9 x10 x11 x12 x13:α):subL [x0,x1,x2,x3,x4,x5,x6,x7,x8,x9,x10,x11,x12,x13] 0 14=[x0,x1,x2,x3,x4,x5,x6,x7,x8,x9,x10,x11,x12,x13]:=rfl
theorem sv:type_of% (
 And.intro @wGO.eq_def <|
 And.intro @wQ.eq_def <|
 And.intro @rdQ.eq_def <|
 And.intro @y8c <|
 And.intro @fl1 <|
 And.intro @fl2 <|
 And.intro @fl3 <|
 And.intro @fl4 <|
 And.intro @yh2 <|
 And.intro @y01 <|
 And.intro @yn2 <|
 And.intro @yl2 <|
 And.intro @yj2 <|
 And.intro @fl5 <|
 And.intro @fl6 <|
 And.intro @fl7 <|
 And.intro @fl8 <|
 And.intro @ya2 <|
 And.intro @y61 <|
 And.intro @ye2 <|
 And.intro @yb2 <|
 And.intro @yc4 <|
 And.intro @y83 <|
 And.intro @ya4 <|
 And.intro @y13 <|
 And.intro @ye4 <|
 And.intro @y93 <|
 And.intro @yd4 <|
 And.intro @yz3 <|
 And.intro @yf2 <|
 And.intro @yk2 <|
 And.intro @yw1 <|
 And.intro @y51 <|
 And.intro @y81 <|
 And.intro @eNotice.eq_1 <|
 And.intro @yc.eq_1 <|
 And.intro @y9k <|
 And.intro @ybb.eq_1 <|
 And.intro @eAid.eq_1 <|
 And.intro @dAid.eq_1 <|
 And.intro @ycv <|
 And.intro @ygb.eq_1 <|
 And.intro @ePoint.eq_1 <|
 And.intro @y6e.eq_1 <|
 And.intro @ysn <|
 And.intro @eMark.eq_1 <|
 And.intro @ymf.eq_1 <|
 And.intro @y5r <|
 And.intro @eCharacter.eq_1 <|
 And.intro @yf.eq_1 <|
 And.intro @y4g <|
 And.intro @y7b.eq_1 <|
 And.intro @eSector.eq_1 <|
 And.intro @yn.eq_1 <|
 And.intro @ygl <|
 And.intro @ylk.eq_1 <|
 And.intro @ysb.eq_1 <|
 And.intro @yfg <|
 And.intro @ybi.eq_1 <|
 And.intro @yv1.eq_1 <|
 And.intro @y41.eq_1 <|
 And.intro @yso <|
 And.intro @ykw.eq_1 <|
 And.intro @eEdition.eq_1 <|
 And.intro @yx.eq_1 <|
 And.intro @ynj <|
 And.intro @yhc.eq_1 <|
 And.intro @yp.eq_1 <|
 And.intro @ylb.eq_1 <|
 And.intro @ypc <|
 And.intro @y8p <|
 And.intro @yro <|
 And.intro @eIu8.eq_1 <|
 And.intro @dIu8.eq_1 <|
 And.intro @y9c <|
 And.intro @yft <|
 And.intro @yyr <|
 And.intro @yk4.eq_1 <|
 And.intro @ypi.eq_1 <|
 And.intro @eS.eq_1 <|
 And.intro @dS.eq_1 <|
 And.intro @yag <|
 And.intro @yi2 <|
 And.intro @y21 <|
 And.intro @y1b <|
 And.intro @yvk <|
 And.intro @yek <|
 And.intro @yjd <|
 And.intro @yrs <|
 And.intro @y8s <|
 And.intro @yad <|
 And.intro @yko <|
 And.intro @y0o <|
 And.intro @ywb <|
 And.intro @yaf <|
 And.intro @ynf <|
 And.intro @y0b <|
 And.intro @y3e <|
 And.intro @y4e <|
 And.intro @yud <|
 And.intro @yej <|
 And.intro @yfk <|
 And.intro @y4d <|
 And.intro @y9h <|
 And.intro @yji <|
 And.intro @yyk <|
 And.intro @yoo <|
 And.intro @ycq <|
 And.intro @ywl <|
 And.intro @y2l <| @yhl):=
 And.intro @wGO.eq_def <|
 And.intro @wQ.eq_def <|
 And.intro @rdQ.eq_def <|
 And.intro @y8c <|
 And.intro @fl1 <|
 And.intro @fl2 <|
 And.intro @fl3 <|
 And.intro @fl4 <|
 And.intro @yh2 <|
 And.intro @y01 <|
 And.intro @yn2 <|
 And.intro @yl2 <|
 And.intro @yj2 <|
 And.intro @fl5 <|
 And.intro @fl6 <|
 And.intro @fl7 <|
 And.intro @fl8 <|
 And.intro @ya2 <|
 And.intro @y61 <|
 And.intro @ye2 <|
 And.intro @yb2 <|
 And.intro @yc4 <|
 And.intro @y83 <|
 And.intro @ya4 <|
 And.intro @y13 <|
 And.intro @ye4 <|
 And.intro @y93 <|
 And.intro @yd4 <|
 And.intro @yz3 <|
 And.intro @yf2 <|
 And.intro @yk2 <|
 And.intro @yw1 <|
 And.intro @y51 <|
 And.intro @y81 <|
 And.intro @eNotice.eq_1 <|
 And.intro @yc.eq_1 <|
 And.intro @y9k <|
 And.intro @ybb.eq_1 <|
 And.intro @eAid.eq_1 <|
 And.intro @dAid.eq_1 <|
 And.intro @ycv <|
 And.intro @ygb.eq_1 <|
 And.intro @ePoint.eq_1 <|
 And.intro @y6e.eq_1 <|
 And.intro @ysn <|
 And.intro @eMark.eq_1 <|
 And.intro @ymf.eq_1 <|
 And.intro @y5r <|
 And.intro @eCharacter.eq_1 <|
 And.intro @yf.eq_1 <|
 And.intro @y4g <|
 And.intro @y7b.eq_1 <|
 And.intro @eSector.eq_1 <|
 And.intro @yn.eq_1 <|
 And.intro @ygl <|
 And.intro @ylk.eq_1 <|
 And.intro @ysb.eq_1 <|
 And.intro @yfg <|
 And.intro @ybi.eq_1 <|
 And.intro @yv1.eq_1 <|
 And.intro @y41.eq_1 <|
 And.intro @yso <|
 And.intro @ykw.eq_1 <|
 And.intro @eEdition.eq_1 <|
 And.intro @yx.eq_1 <|
 And.intro @ynj <|
 And.intro @yhc.eq_1 <|
 And.intro @yp.eq_1 <|
 And.intro @ylb.eq_1 <|
 And.intro @ypc <|
 And.intro @y8p <|
 And.intro @yro <|
 And.intro @eIu8.eq_1 <|
 And.intro @dIu8.eq_1 <|
 And.intro @y9c <|
 And.intro @yft <|
 And.intro @yyr <|
 And.intro @yk4.eq_1 <|
 And.intro @ypi.eq_1 <|
 And.intro @eS.eq_1 <|
 And.intro @dS.eq_1 <|
 And.intro @yag <|
 And.intro @yi2 <|
 And.intro @y21 <|
 And.intro @y1b <|
 And.intro @yvk <|
 And.intro @yek <|
 And.intro @yjd <|
 And.intro @yrs <|
 And.intro @y8s <|
 And.intro @yad <|
 And.intro @yko <|
 And.intro @y0o <|
 And.intro @ywb <|
 And.intro @yaf <|
 And.intro @ynf <|
 And.intro @y0b <|
 And.intro @y3e <|
 And.intro @y4e <|
 And.intro @yud <|
 And.intro @yej <|
 And.intro @yfk <|
 And.intro @y4d <|
 And.intro @y9h <|
 And.intro @yji <|
 And.intro @yyk <|
 And.intro @yoo <|
 And.intro @ycq <|
 And.intro @ywl <|
 And.intro @y2l <| @yhl
theorem bdv:type_of% (And.intro @bdS.eq_1 <| And.intro @bdMark.eq_1 <| And.intro @bdLIi64.eq_1 <| And.intro @bdCharacter.eq_1 <| And.intro @bdSector.eq_1 <| And.intro @bdLSector.eq_1 <| And.intro @bdAid.eq_1 <| And.intro @bdNotice.eq_1 <| And.intro @bdCorrection.eq_1 <| And.intro @bdstate.eq_1 <| And.intro @bdLAid.eq_1 <| And.intro @bdEdition.eq_1 <| And.intro @bwS.eq_1 <| And.intro @bwMark.eq_1 <| And.intro @bwLIi64.eq_1 <| And.intro @bwCharacter.eq_1 <| And.intro @bwSector.eq_1 <| And.intro @bwLSector.eq_1 <| And.intro @bwAid.eq_1 <| And.intro @bwNotice.eq_1 <| And.intro @bwCorrection.eq_1 <| And.intro @bwstate.eq_1 <| And.intro @bwLAid.eq_1 <| And.intro @bwEdition.eq_1 <| @Nat.le_refl):=
 And.intro @bdS.eq_1 <| And.intro @bdMark.eq_1 <| And.intro @bdLIi64.eq_1 <| And.intro @bdCharacter.eq_1 <| And.intro @bdSector.eq_1 <| And.intro @bdLSector.eq_1 <| And.intro @bdAid.eq_1 <| And.intro @bdNotice.eq_1 <| And.intro @bdCorrection.eq_1 <| And.intro @bdstate.eq_1 <| And.intro @bdLAid.eq_1 <| And.intro @bdEdition.eq_1 <| And.intro @bwS.eq_1 <| And.intro @bwMark.eq_1 <| And.intro @bwLIi64.eq_1 <| And.intro @bwCharacter.eq_1 <| And.intro @bwSector.eq_1 <| And.intro @bwLSector.eq_1 <| And.intro @bwAid.eq_1 <| And.intro @bwNotice.eq_1 <| And.intro @bwCorrection.eq_1 <| And.intro @bwstate.eq_1 <| And.intro @bwLAid.eq_1 <| And.intro @bwEdition.eq_1 <| @Nat.le_refl
end Go.Ab
