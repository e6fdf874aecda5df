/- A part of a proof: walks of functions and lemmas of our own. No conditions. -/
import Derived.Test.YthadgghdkkapaaaGreatDoorPAk
import Derived.Test.YthadgghdkkapaaaGreatDoorPAh
import Derived.KernelRfl
import Derived.Lib.LaidTab
import Derived.Lib.Fields
import Derived.Lib.ItoaNum
import Derived.Test.YthadgghdkkapaaaGreatDoorProg
set_option linter.unusedSectionVars false
set_option linter.unusedVariables false
set_option linter.unusedSimpArgs false
set_option maxHeartbeats 1000000
namespace Go.Ab
open Go Go.Proofs
def tn0:String:= "strings.asciiSpace"
def ykz (w:World):Prop:=Go.Lib.TabIs Tryz.prog w tn0 .u8 Go.Lib.asciiSpaceTab
theorem g0:Tryz.prog.globalNamed tn0=some 0:=by kernel_rfl
instance inv0:Inv:=⟨ykz,fun b=>b=0,fun w h b hb=>by
  subst hb;unfold ykz Go.Lib.TabIs World.var? at h;rw[g0]at h;simp only[Option.bind_some]at h;by_cases hl:0<w.heap.size
  ·exact hl
  ·rw[Array.getElem?_eq_none (by omega)]at h
   simp at h,fun w w' h ho hb=>by
  unfold ykz Go.Lib.TabIs World.var? at h ⊢;rw[g0]at h ⊢;simp only[Option.bind_some]at h ⊢;rw[hb 0 rfl]
  exact h⟩
def wGO {α : Type} (e : α -> List AV) (d : List AV -> α) : AV -> Prop
 | .agg cs=>simOL cs (e (d cs))
 | _=>False
theorem y4s {α:Type} [Inhabited α] {e:α->List AV} {d:List AV->α} {a:AV} (h:wGO e d a):simO a (.agg (e (rdG d a))):=by
 cases a<;>simp_all[wGO,rdG,simO]
def rdQ {α : Type} [Inhabited α] (d : List AV -> α) : AV -> α
 | .op cs=>d cs
 | _=>default
def wQ {α : Type} (e : α -> List AV) (d : List AV -> α) : AV -> Prop
 | .op cs=>cs=e (d cs)\/simOL cs (e (d cs))
 | _=>False
theorem yzy {α:Type} [Inhabited α] {e:α->List AV} {d:List AV->α} {a:AV} (h:wQ e d a):simO a (.op (e (rdQ d a))):=by
 cases a with
 | op cs=>
  simp only[wQ]at h;simp only[rdQ,simO];rcases h with h|h
  ·rw[<- h];exact y9 _
  ·exact h
 | _=>simp[wQ]at h
def G:Env:=[(2,⟨.int .i64,1,8,[.int .i64 0],true⟩),
 (3,⟨.int .i64,1,8,[.int .i64 0],true⟩),
 (4,⟨.bool,1,1,[.bool false],true⟩),
 (5,⟨.int .u8,1,1,[.int .u8 0],true⟩),
 (9,⟨.string,1,16,[.str []],true⟩),
 (21,⟨.int .i32,1,4,[.int .i32 0],true⟩),
 (22,⟨.slice 5,1,24,[.nils],true⟩),
 (25,⟨.struct [(0,2),(1,2)] true,2,16,[.int .i64 0,.int .i64 0],true⟩),
 (27,⟨.struct [(0,9),(1,25),(3,2)] true,4,40,[.str [],.int .i64 0,.int .i64 0,.int .i64 0],true⟩),
 (30,⟨.slice 25,1,24,[.nils],true⟩),
 (33,⟨.slice 45,1,24,[.nils],true⟩),
 (37,⟨.struct [(0,2),(1,9),(2,9),(3,9)] true,4,56,[.int .i64 0,.str [],.str [],.str []],true⟩),
 (40,⟨.slice 2,1,24,[.nils],true⟩),
 (42,⟨.struct [(0,2),(1,40),(2,9),(3,9),(4,2)] true,5,72,[.int .i64 0,.nils,.str [],.str [],.int .i64 0],true⟩),
 (43,⟨.slice 165,1,24,[.nils],true⟩),
 (45,⟨.struct [(0,2),(1,9),(2,25),(4,2),(5,37),(9,42),(14,43),(15,2)] true,16,208,[.int .i64 0,.str [],.int .i64 0,.int .i64 0,.int .i64 0,.int .i64 0,.str [],.str [],.str [],.int .i64 0,.nils,.str [],.str [],.int .i64 0,.nils,.int .i64 0],true⟩),
 (54,⟨.struct [(0,2),(1,2)] true,2,16,[.int .i64 0,.int .i64 0],true⟩),
 (55,⟨.struct [(0,2),(1,9),(2,9),(3,9)] true,4,56,[.int .i64 0,.str [],.str [],.str []],true⟩),
 (56,⟨.struct [(0,2),(1,40),(2,9),(3,9),(4,2)] true,5,72,[.int .i64 0,.nils,.str [],.str [],.int .i64 0],true⟩),
 (57,⟨.slice 158,1,24,[.nils],true⟩),
 (59,⟨.struct [(0,2),(1,9),(2,54),(4,2),(5,55),(9,56),(14,57),(15,2)] true,16,208,[.int .i64 0,.str [],.int .i64 0,.int .i64 0,.int .i64 0,.int .i64 0,.str [],.str [],.str [],.int .i64 0,.nils,.str [],.str [],.int .i64 0,.nils,.int .i64 0],true⟩),
 (67,⟨.struct [(0,9),(1,54),(3,2)] true,4,40,[.str [],.int .i64 0,.int .i64 0,.int .i64 0],true⟩),
 (68,⟨.slice 59,1,24,[.nils],true⟩),
 (79,⟨.slice 140,1,24,[.nils],true⟩),
 (86,⟨.struct [(0,2),(1,2),(2,33)] true,3,40,[.int .i64 0,.int .i64 0,.nils],true⟩),
 (102,⟨.slice 9,1,24,[.nils],true⟩),
 (140,⟨.struct [(0,2),(1,2),(2,2),(3,2),(4,45)] true,20,240,[.int .i64 0,.int .i64 0,.int .i64 0,.int .i64 0,.int .i64 0,.str [],.int .i64 0,.int .i64 0,.int .i64 0,.int .i64 0,.str [],.str [],.str [],.int .i64 0,.nils,.str [],.str [],.int .i64 0,.nils,.int .i64 0],true⟩),
 (141,⟨.int .u64,1,8,[.int .u64 0],true⟩),
 (143,⟨.struct [(0,22),(1,3),(2,141)] true,3,40,[.nils,.int .i64 0,.int .u64 0],true⟩),
 (158,⟨.struct [(0,2),(1,2),(2,9)] true,3,32,[.int .i64 0,.int .i64 0,.str []],true⟩),
 (165,⟨.struct [(0,2),(1,2),(2,9)] true,3,32,[.int .i64 0,.int .i64 0,.str []],true⟩),
 (170,⟨.slice 204,1,24,[.nils],true⟩),
 (204,⟨.struct [(0,9),(1,2)] true,2,24,[.str [],.int .i64 0],true⟩),
 (235,⟨.slice 170,1,24,[.nils],true⟩),
 (245,⟨.array 91 2,91,728,[.int .i64 0,.int .i64 0,.int .i64 0,.int .i64 0,.int .i64 0,.int .i64 0,.int .i64 0,.int .i64 0,.int .i64 0,.int .i64 0,.int .i64 0,.int .i64 0,.int .i64 0,.int .i64 0,.int .i64 0,.int .i64 0,.int .i64 0,.int .i64 0,.int .i64 0,.int .i64 0,.int .i64 0,.int .i64 0,.int .i64 0,.int .i64 0,.int .i64 0,.int .i64 0,.int .i64 0,.int .i64 0,.int .i64 0,.int .i64 0,.int .i64 0,.int .i64 0,.int .i64 0,.int .i64 0,.int .i64 0,.int .i64 0,.int .i64 0,.int .i64 0,.int .i64 0,.int .i64 0,.int .i64 0,.int .i64 0,.int .i64 0,.int .i64 0,.int .i64 0,.int .i64 0,.int .i64 0,.int .i64 0,.int .i64 0,.int .i64 0,.int .i64 0,.int .i64 0,.int .i64 0,.int .i64 0,.int .i64 0,.int .i64 0,.int .i64 0,.int .i64 0,.int .i64 0,.int .i64 0,.int .i64 0,.int .i64 0,.int .i64 0,.int .i64 0,.int .i64 0,.int .i64 0,.int .i64 0,.int .i64 0,.int .i64 0,.int .i64 0,.int .i64 0,.int .i64 0,.int .i64 0,.int .i64 0,.int .i64 0,.int .i64 0,.int .i64 0,.int .i64 0,.int .i64 0,.int .i64 0,.int .i64 0,.int .i64 0,.int .i64 0,.int .i64 0,.int .i64 0,.int .i64 0,.int .i64 0,.int .i64 0,.int .i64 0,.int .i64 0,.int .i64 0],true⟩),
 (256,⟨.array 26 9,26,416,[.str [],.str [],.str [],.str [],.str [],.str [],.str [],.str [],.str [],.str [],.str [],.str [],.str [],.str [],.str [],.str [],.str [],.str [],.str [],.str [],.str [],.str [],.str [],.str [],.str [],.str []],true⟩),
 (270,⟨.slice 102,1,24,[.nils],true⟩)]
theorem G_ok:TyOk Tryz.prog G:=by unfold TyOk;kernel_rfl
theorem gv:tget G 2=some ⟨.int .i64,1,8,[.int .i64 0],true⟩ /\
 tget G 3=some ⟨.int .i64,1,8,[.int .i64 0],true⟩ /\
 tget G 4=some ⟨.bool,1,1,[.bool false],true⟩ /\
 tget G 5=some ⟨.int .u8,1,1,[.int .u8 0],true⟩ /\
 tget G 9=some ⟨.string,1,16,[.str []],true⟩ /\
 tget G 21=some ⟨.int .i32,1,4,[.int .i32 0],true⟩ /\
 tget G 22=some ⟨.slice 5,1,24,[.nils],true⟩ /\
 tget G 25=some ⟨.struct [(0,2),(1,2)] true,2,16,[.int .i64 0,.int .i64 0],true⟩ /\
 tget G 27=some ⟨.struct [(0,9),(1,25),(3,2)] true,4,40,[.str [],.int .i64 0,.int .i64 0,.int .i64 0],true⟩ /\
 tget G 30=some ⟨.slice 25,1,24,[.nils],true⟩ /\
 tget G 33=some ⟨.slice 45,1,24,[.nils],true⟩ /\
 tget G 37=some ⟨.struct [(0,2),(1,9),(2,9),(3,9)] true,4,56,[.int .i64 0,.str [],.str [],.str []],true⟩ /\
 tget G 40=some ⟨.slice 2,1,24,[.nils],true⟩ /\
 tget G 42=some ⟨.struct [(0,2),(1,40),(2,9),(3,9),(4,2)] true,5,72,[.int .i64 0,.nils,.str [],.str [],.int .i64 0],true⟩ /\
 tget G 43=some ⟨.slice 165,1,24,[.nils],true⟩ /\
 tget G 45=some ⟨.struct [(0,2),(1,9),(2,25),(4,2),(5,37),(9,42),(14,43),(15,2)] true,16,208,[.int .i64 0,.str [],.int .i64 0,.int .i64 0,.int .i64 0,.int .i64 0,.str [],.str [],.str [],.int .i64 0,.nils,.str [],.str [],.int .i64 0,.nils,.int .i64 0],true⟩ /\
 tget G 54=some ⟨.struct [(0,2),(1,2)] true,2,16,[.int .i64 0,.int .i64 0],true⟩ /\
 tget G 55=some ⟨.struct [(0,2),(1,9),(2,9),(3,9)] true,4,56,[.int .i64 0,.str [],.str [],.str []],true⟩ /\
 tget G 56=some ⟨.struct [(0,2),(1,40),(2,9),(3,9),(4,2)] true,5,72,[.int .i64 0,.nils,.str [],.str [],.int .i64 0],true⟩ /\
 tget G 57=some ⟨.slice 158,1,24,[.nils],true⟩ /\
 tget G 59=some ⟨.struct [(0,2),(1,9),(2,54),(4,2),(5,55),(9,56),(14,57),(15,2)] true,16,208,[.int .i64 0,.str [],.int .i64 0,.int .i64 0,.int .i64 0,.int .i64 0,.str [],.str [],.str [],.int .i64 0,.nils,.str [],.str [],.int .i64 0,.nils,.int .i64 0],true⟩ /\
 tget G 67=some ⟨.struct [(0,9),(1,54),(3,2)] true,4,40,[.str [],.int .i64 0,.int .i64 0,.int .i64 0],true⟩ /\
 tget G 68=some ⟨.slice 59,1,24,[.nils],true⟩ /\
 tget G 79=some ⟨.slice 140,1,24,[.nils],true⟩ /\
 tget G 86=some ⟨.struct [(0,2),(1,2),(2,33)] true,3,40,[.int .i64 0,.int .i64 0,.nils],true⟩ /\
 tget G 102=some ⟨.slice 9,1,24,[.nils],true⟩ /\
 tget G 140=some ⟨.struct [(0,2),(1,2),(2,2),(3,2),(4,45)] true,20,240,[.int .i64 0,.int .i64 0,.int .i64 0,.int .i64 0,.int .i64 0,.str [],.int .i64 0,.int .i64 0,.int .i64 0,.int .i64 0,.str [],.str [],.str [],.int .i64 0,.nils,.str [],.str [],.int .i64 0,.nils,.int .i64 0],true⟩ /\
 tget G 141=some ⟨.int .u64,1,8,[.int .u64 0],true⟩ /\
 tget G 143=some ⟨.struct [(0,22),(1,3),(2,141)] true,3,40,[.nils,.int .i64 0,.int .u64 0],true⟩ /\
 tget G 158=some ⟨.struct [(0,2),(1,2),(2,9)] true,3,32,[.int .i64 0,.int .i64 0,.str []],true⟩ /\
 tget G 165=some ⟨.struct [(0,2),(1,2),(2,9)] true,3,32,[.int .i64 0,.int .i64 0,.str []],true⟩ /\
 tget G 170=some ⟨.slice 204,1,24,[.nils],true⟩ /\
 tget G 204=some ⟨.struct [(0,9),(1,2)] true,2,24,[.str [],.int .i64 0],true⟩ /\
 tget G 235=some ⟨.slice 170,1,24,[.nils],true⟩ /\
 tget G 245=some ⟨.array 91 2,91,728,[.int .i64 0,.int .i64 0,.int .i64 0,.int .i64 0,.int .i64 0,.int .i64 0,.int .i64 0,.int .i64 0,.int .i64 0,.int .i64 0,.int .i64 0,.int .i64 0,.int .i64 0,.int .i64 0,.int .i64 0,.int .i64 0,.int .i64 0,.int .i64 0,.int .i64 0,.int .i64 0,.int .i64 0,.int .i64 0,.int .i64 0,.int .i64 0,.int .i64 0,.int .i64 0,.int .i64 0,.int .i64 0,.int .i64 0,.int .i64 0,.int .i64 0,.int .i64 0,.int .i64 0,.int .i64 0,.int .i64 0,.int .i64 0,.int .i64 0,.int .i64 0,.int .i64 0,.int .i64 0,.int .i64 0,.int .i64 0,.int .i64 0,.int .i64 0,.int .i64 0,.int .i64 0,.int .i64 0,.int .i64 0,.int .i64 0,.int .i64 0,.int .i64 0,.int .i64 0,.int .i64 0,.int .i64 0,.int .i64 0,.int .i64 0,.int .i64 0,.int .i64 0,.int .i64 0,.int .i64 0,.int .i64 0,.int .i64 0,.int .i64 0,.int .i64 0,.int .i64 0,.int .i64 0,.int .i64 0,.int .i64 0,.int .i64 0,.int .i64 0,.int .i64 0,.int .i64 0,.int .i64 0,.int .i64 0,.int .i64 0,.int .i64 0,.int .i64 0,.int .i64 0,.int .i64 0,.int .i64 0,.int .i64 0,.int .i64 0,.int .i64 0,.int .i64 0,.int .i64 0,.int .i64 0,.int .i64 0,.int .i64 0,.int .i64 0,.int .i64 0,.int .i64 0],true⟩ /\
 tget G 256=some ⟨.array 26 9,26,416,[.str [],.str [],.str [],.str [],.str [],.str [],.str [],.str [],.str [],.str [],.str [],.str [],.str [],.str [],.str [],.str [],.str [],.str [],.str [],.str [],.str [],.str [],.str [],.str [],.str [],.str []],true⟩ /\
 tget G 270=some ⟨.slice 102,1,24,[.nils],true⟩:=by
 and_intros<;>rfl
theorem mixed:Tryz.prog.follows .mixedOrders=true:=by kernel_rfl
def yq (v:Int):List AV:=[.int .i64 v]
def ydb : List AV -> Int
 | [c]=>rdI c
 | _=>default
def eIu8 (v:Int):List AV:=[.int .u8 v]
def dIu8 : List AV -> Int
 | [c]=>rdI c
 | _=>default
def eS (v:(List UInt8)):List AV:=[.str v]
def dS : List AV -> (List UInt8)
 | [c]=>rdS c
 | _=>default
structure Point where
 X:Int
 Y:Int
 deriving Inhabited,DecidableEq
def yx (v:Point):List AV:=[.int .i64 v.X,.int .i64 v.Y]
def y7 : List AV -> Point
 | c0::c1::_=>⟨rdI c0,rdI c1⟩
 | _=>default
theorem y2m (v:Point):Point.mk v.X v.Y=v:=rfl
structure Mark where
 Kind:Int
 Colors:(List UInt8)
 Shape:(List UInt8)
 Topmark:(List UInt8)
 deriving Inhabited,DecidableEq
def yzg (v:Mark):List AV:=[.int .i64 v.Kind,.str v.Colors,.str v.Shape,.str v.Topmark]
def yok : List AV -> Mark
 | c0::c1::c2::c3::_=>⟨rdI c0,rdS c1,rdS c2,rdS c3⟩
 | _=>default
theorem y6p (v:Mark):Mark.mk v.Kind v.Colors v.Shape v.Topmark=v:=rfl
structure Character where
 Kind:Int
 Group:(List Int)
 Letter:(List UInt8)
 Colors:(List UInt8)
 Period:Int
 deriving Inhabited,DecidableEq
def ym (v:Character):List AV:=[.int .i64 v.Kind,encL 1 yq v.Group,.str v.Letter,.str v.Colors,.int .i64 v.Period]
def ydc (v:Character):List AV:=[.int .i64 v.Kind,ownL 2 1 yq v.Group,.str v.Letter,.str v.Colors,.int .i64 v.Period]
def ye : List AV -> Character
 | c0::c1::c2::c3::c4::_=>⟨rdI c0,rdL ydb c1,rdS c2,rdS c3,rdI c4⟩
 | _=>default
theorem yjf (v:Character):Character.mk v.Kind v.Group v.Letter v.Colors v.Period=v:=rfl
structure Sector where
 From:Int
 To:Int
 Color:(List UInt8)
 deriving Inhabited,DecidableEq
def yw (v:Sector):List AV:=[.int .i64 v.From,.int .i64 v.To,.str v.Color]
def y8 : List AV -> Sector
 | c0::c1::c2::_=>⟨rdI c0,rdI c1,rdS c2⟩
 | _=>default
theorem y5j (v:Sector):Sector.mk v.From v.To v.Color=v:=rfl
structure Aid where
 Number:Int
 Name:(List UInt8)
 At:Point
 Height:Int
 Mark:Mark
 Light:Character
 Sectors:(List Sector)
 Intensity:Int
 deriving Inhabited,DecidableEq
def eAid (v:Aid):List AV:=[.int .i64 v.Number,.str v.Name,.int .i64 v.At.X,.int .i64 v.At.Y,.int .i64 v.Height,.int .i64 v.Mark.Kind,.str v.Mark.Colors,.str v.Mark.Shape,.str v.Mark.Topmark,.int .i64 v.Light.Kind,encL 1 yq v.Light.Group,.str v.Light.Letter,.str v.Light.Colors,.int .i64 v.Light.Period,encL 3 yw v.Sectors,.int .i64 v.Intensity]
def yoe (v:Aid):List AV:=[.int .i64 v.Number,.str v.Name,.int .i64 v.At.X,.int .i64 v.At.Y,.int .i64 v.Height,.int .i64 v.Mark.Kind,.str v.Mark.Colors,.str v.Mark.Shape,.str v.Mark.Topmark,.int .i64 v.Light.Kind,ownL 2 1 yq v.Light.Group,.str v.Light.Letter,.str v.Light.Colors,.int .i64 v.Light.Period,ownL 165 3 yw v.Sectors,.int .i64 v.Intensity]
def dAid : List AV -> Aid
 | c0::c1::c2::c3::c4::c5::c6::c7::c8::c9::c10::c11::c12::c13::c14::c15::_=>⟨rdI c0,rdS c1,⟨rdI c2,rdI c3⟩,rdI c4,⟨rdI c5,rdS c6,rdS c7,rdS c8⟩,⟨rdI c9,rdL ydb c10,rdS c11,rdS c12,rdI c13⟩,rdL y8 c14,rdI c15⟩
 | _=>default
theorem y0s (v:Aid):Aid.mk v.Number v.Name v.At v.Height v.Mark v.Light v.Sectors v.Intensity=v:=rfl
structure Notice where
 Number:Int
 Day:Int
 Kind:Int
 Target:Int
 Aid:Aid
 deriving Inhabited,DecidableEq
def ykt (v:Notice):List AV:=[.int .i64 v.Number,.int .i64 v.Day,.int .i64 v.Kind,.int .i64 v.Target,.int .i64 v.Aid.Number,.str v.Aid.Name,.int .i64 v.Aid.At.X,.int .i64 v.Aid.At.Y,.int .i64 v.Aid.Height,.int .i64 v.Aid.Mark.Kind,.str v.Aid.Mark.Colors,.str v.Aid.Mark.Shape,.str v.Aid.Mark.Topmark,.int .i64 v.Aid.Light.Kind,encL 1 yq v.Aid.Light.Group,.str v.Aid.Light.Letter,.str v.Aid.Light.Colors,.int .i64 v.Aid.Light.Period,encL 3 yw v.Aid.Sectors,.int .i64 v.Aid.Intensity]
def yzp (v:Notice):List AV:=[.int .i64 v.Number,.int .i64 v.Day,.int .i64 v.Kind,.int .i64 v.Target,.int .i64 v.Aid.Number,.str v.Aid.Name,.int .i64 v.Aid.At.X,.int .i64 v.Aid.At.Y,.int .i64 v.Aid.Height,.int .i64 v.Aid.Mark.Kind,.str v.Aid.Mark.Colors,.str v.Aid.Mark.Shape,.str v.Aid.Mark.Topmark,.int .i64 v.Aid.Light.Kind,ownL 2 1 yq v.Aid.Light.Group,.str v.Aid.Light.Letter,.str v.Aid.Light.Colors,.int .i64 v.Aid.Light.Period,ownL 165 3 yw v.Aid.Sectors,.int .i64 v.Aid.Intensity]
def yqc : List AV -> Notice
 | c0::c1::c2::c3::c4::c5::c6::c7::c8::c9::c10::c11::c12::c13::c14::c15::c16::c17::c18::c19::_=>⟨rdI c0,rdI c1,rdI c2,rdI c3,⟨rdI c4,rdS c5,⟨rdI c6,rdI c7⟩,rdI c8,⟨rdI c9,rdS c10,rdS c11,rdS c12⟩,⟨rdI c13,rdL ydb c14,rdS c15,rdS c16,rdI c17⟩,rdL y8 c18,rdI c19⟩⟩
 | _=>default
theorem ysj (v:Notice):Notice.mk v.Number v.Day v.Kind v.Target v.Aid=v:=rfl
structure Edition where
 Number:Int
 Day:Int
 Aids:(List Aid)
 deriving Inhabited,DecidableEq
def ytq (v:Edition):List AV:=[.int .i64 v.Number,.int .i64 v.Day,encL 16 eAid v.Aids]
def yfm (v:Edition):List AV:=[.int .i64 v.Number,.int .i64 v.Day,ownL 45 16 yoe v.Aids]
def ygq : List AV -> Edition
 | c0::c1::c2::_=>⟨rdI c0,rdI c1,rdL dAid c2⟩
 | _=>default
theorem y4i (v:Edition):Edition.mk v.Number v.Day v.Aids=v:=rfl
structure l00Src where
 code:(List Int)
 at_:Int
 seed:Int
 deriving Inhabited,DecidableEq
def yi (v:l00Src):List AV:=[encL 1 eIu8 v.code,.int .i64 v.at_,.int .u64 v.seed]
def ycq (v:l00Src):List AV:=[ownL 5 1 eIu8 v.code,.int .i64 v.at_,.int .u64 v.seed]
def yj : List AV -> l00Src
 | c0::c1::c2::_=>⟨rdL dIu8 c0,rdI c1,rdI c2⟩
 | _=>default
theorem yjj (v:l00Src):l00Src.mk v.code v.at_ v.seed=v:=rfl
structure Danger where
 Name:(List UInt8)
 At:Point
 Radius:Int
 deriving Inhabited,DecidableEq
def yr (v:Danger):List AV:=[.str v.Name,.int .i64 v.At.X,.int .i64 v.At.Y,.int .i64 v.Radius]
def yu : List AV -> Danger
 | c0::c1::c2::c3::_=>⟨rdS c0,⟨rdI c1,rdI c2⟩,rdI c3⟩
 | _=>default
theorem ytj (v:Danger):Danger.mk v.Name v.At v.Radius=v:=rfl
structure Phase where
 Color:(List UInt8)
 Length:Int
 deriving Inhabited,DecidableEq
def yhu (v:Phase):List AV:=[.str v.Color,.int .i64 v.Length]
def ywj : List AV -> Phase
 | c0::c1::_=>⟨rdS c0,rdI c1⟩
 | _=>default
theorem y6m (v:Phase):Phase.mk v.Color v.Length=v:=rfl
theorem y4b (l:List Int):decL ydb l.length (fun i=>[.int .i64 (l.getD i default)])=l:=yab l
theorem yjn (l:List Int) (lo n:Nat):decL ydb n (fun i=>[.int .i64 (l.getD (lo+i) default)])=subL l lo n:=rfl
theorem y3m (l:List Int) (n:Nat):decL ydb n (fun i=>[.int .i64 (l.getD i default)])=subL l 0 n:=by simp only[subL,Nat.zero_add];rfl
theorem ymc (l:List Int):decL dIu8 l.length (fun i=>[.int .u8 (l.getD i default)])=l:=yab l
theorem y4p (l:List Int) (lo n:Nat):decL dIu8 n (fun i=>[.int .u8 (l.getD (lo+i) default)])=subL l lo n:=rfl
theorem yiq (l:List Int) (n:Nat):decL dIu8 n (fun i=>[.int .u8 (l.getD i default)])=subL l 0 n:=by simp only[subL,Nat.zero_add];rfl
def yks (v:(List Phase)):List AV:=[encL 2 yhu v]
def yrc : List AV -> (List Phase)
 | [c]=>rdL ywj c
 | _=>default
def eLS (v:(List (List UInt8))):List AV:=[encL 1 eS v]
def dLS : List AV -> (List (List UInt8))
 | [c]=>rdL dS c
 | _=>default
theorem yub (l:List Phase):decL ywj l.length (fun i=>[.str ((l.getD i default).Color),.int .i64 ((l.getD i default).Length)])=l:=yab l
theorem yoj (l:List Phase) (lo n:Nat):decL ywj n (fun i=>[.str ((l.getD (lo+i) default).Color),.int .i64 ((l.getD (lo+i) default).Length)])=subL l lo n:=rfl
theorem yfj (l:List Phase) (n:Nat):decL ywj n (fun i=>[.str ((l.getD i default).Color),.int .i64 ((l.getD i default).Length)])=subL l 0 n:=by simp only[subL,Nat.zero_add];rfl
theorem ytb (l:List Point):decL y7 l.length (fun i=>[.int .i64 ((l.getD i default).X),.int .i64 ((l.getD i default).Y)])=l:=yab l
theorem ylj (l:List Point) (lo n:Nat):decL y7 n (fun i=>[.int .i64 ((l.getD (lo+i) default).X),.int .i64 ((l.getD (lo+i) default).Y)])=subL l lo n:=rfl
theorem y9j (l:List Point) (n:Nat):decL y7 n (fun i=>[.int .i64 ((l.getD i default).X),.int .i64 ((l.getD i default).Y)])=subL l 0 n:=by simp only[subL,Nat.zero_add];rfl
theorem yve (l:List (List UInt8)):decL dS l.length (fun i=>[.str (l.getD i default)])=l:=yab l
theorem yiy (l:List (List UInt8)) (lo n:Nat):decL dS n (fun i=>[.str (l.getD (lo+i) default)])=subL l lo n:=rfl
theorem yoy (l:List (List UInt8)) (n:Nat):decL dS n (fun i=>[.str (l.getD i default)])=subL l 0 n:=by simp only[subL,Nat.zero_add];rfl
theorem ylb (l:List Sector):decL y8 l.length (fun i=>[.int .i64 ((l.getD i default).From),.int .i64 ((l.getD i default).To),.str ((l.getD i default).Color)])=l:=yab l
theorem yrh (l:List Sector) (lo n:Nat):decL y8 n (fun i=>[.int .i64 ((l.getD (lo+i) default).From),.int .i64 ((l.getD (lo+i) default).To),.str ((l.getD (lo+i) default).Color)])=subL l lo n:=rfl
theorem ymi (l:List Sector) (n:Nat):decL y8 n (fun i=>[.int .i64 ((l.getD i default).From),.int .i64 ((l.getD i default).To),.str ((l.getD i default).Color)])=subL l 0 n:=by simp only[subL,Nat.zero_add];rfl
theorem yyn (v:Aid):dAid [.int .i64 v.Number,.str v.Name,.int .i64 v.At.X,.int .i64 v.At.Y,.int .i64 v.Height,.int .i64 v.Mark.Kind,.str v.Mark.Colors,.str v.Mark.Shape,.str v.Mark.Topmark,.int .i64 v.Light.Kind,.sl none 1 v.Light.Group.length (fun j=>[.int .i64 (v.Light.Group.getD j default)]),.str v.Light.Letter,.str v.Light.Colors,.int .i64 v.Light.Period,.sl none 3 v.Sectors.length (fun j=>[.int .i64 ((v.Sectors.getD j default).From),.int .i64 ((v.Sectors.getD j default).To),.str ((v.Sectors.getD j default).Color)]),.int .i64 v.Intensity]=v:=by simp only[dAid,rdI,rdB,rdS,rdL,y4b,ymc,yub,ytb,yve,ylb]
theorem yvc (l:List Aid):decL dAid l.length (fun i=>[.int .i64 ((l.getD i default).Number),.str ((l.getD i default).Name),.int .i64 (((l.getD i default).At).X),.int .i64 (((l.getD i default).At).Y),.int .i64 ((l.getD i default).Height),.int .i64 (((l.getD i default).Mark).Kind),.str (((l.getD i default).Mark).Colors),.str (((l.getD i default).Mark).Shape),.str (((l.getD i default).Mark).Topmark),.int .i64 (((l.getD i default).Light).Kind),.sl none 1 (((l.getD i default).Light).Group).length (fun j=>[.int .i64 ((((l.getD i default).Light).Group).getD j default)]),.str (((l.getD i default).Light).Letter),.str (((l.getD i default).Light).Colors),.int .i64 (((l.getD i default).Light).Period),.sl none 3 ((l.getD i default).Sectors).length (fun j=>[.int .i64 ((((l.getD i default).Sectors).getD j default).From),.int .i64 ((((l.getD i default).Sectors).getD j default).To),.str ((((l.getD i default).Sectors).getD j default).Color)]),.int .i64 ((l.getD i default).Intensity)])=l:=(List.map_congr_left fun i _=>yyn (l.getD i default)).trans (yab l)
theorem y4o (l:List Aid) (lo n:Nat):decL dAid n (fun i=>[.int .i64 ((l.getD (lo+i) default).Number),.str ((l.getD (lo+i) default).Name),.int .i64 (((l.getD (lo+i) default).At).X),.int .i64 (((l.getD (lo+i) default).At).Y),.int .i64 ((l.getD (lo+i) default).Height),.int .i64 (((l.getD (lo+i) default).Mark).Kind),.str (((l.getD (lo+i) default).Mark).Colors),.str (((l.getD (lo+i) default).Mark).Shape),.str (((l.getD (lo+i) default).Mark).Topmark),.int .i64 (((l.getD (lo+i) default).Light).Kind),.sl none 1 (((l.getD (lo+i) default).Light).Group).length (fun j=>[.int .i64 ((((l.getD (lo+i) default).Light).Group).getD j default)]),.str (((l.getD (lo+i) default).Light).Letter),.str (((l.getD (lo+i) default).Light).Colors),.int .i64 (((l.getD (lo+i) default).Light).Period),.sl none 3 ((l.getD (lo+i) default).Sectors).length (fun j=>[.int .i64 ((((l.getD (lo+i) default).Sectors).getD j default).From),.int .i64 ((((l.getD (lo+i) default).Sectors).getD j default).To),.str ((((l.getD (lo+i) default).Sectors).getD j default).Color)]),.int .i64 ((l.getD (lo+i) default).Intensity)])=subL l lo n:=List.map_congr_left fun i _=>yyn (l.getD (lo+i) default)
theorem y7o (l:List Aid) (n:Nat):decL dAid n (fun i=>[.int .i64 ((l.getD i default).Number),.str ((l.getD i default).Name),.int .i64 (((l.getD i default).At).X),.int .i64 (((l.getD i default).At).Y),.int .i64 ((l.getD i default).Height),.int .i64 (((l.getD i default).Mark).Kind),.str (((l.getD i default).Mark).Colors),.str (((l.getD i default).Mark).Shape),.str (((l.getD i default).Mark).Topmark),.int .i64 (((l.getD i default).Light).Kind),.sl none 1 (((l.getD i default).Light).Group).length (fun j=>[.int .i64 ((((l.getD i default).Light).Group).getD j default)]),.str (((l.getD i default).Light).Letter),.str (((l.getD i default).Light).Colors),.int .i64 (((l.getD i default).Light).Period),.sl none 3 ((l.getD i default).Sectors).length (fun j=>[.int .i64 ((((l.getD i default).Sectors).getD j default).From),.int .i64 ((((l.getD i default).Sectors).getD j default).To),.str ((((l.getD i default).Sectors).getD j default).Color)]),.int .i64 ((l.getD i default).Intensity)])=subL l 0 n:=by simp only[subL,Nat.zero_add];exact List.map_congr_left fun i _=>yyn (l.getD i default)
theorem yjk (v:Aid):dAid [.int .i64 v.Number,.str v.Name,.int .i64 v.At.X,.int .i64 v.At.Y,.int .i64 v.Height,.int .i64 v.Mark.Kind,.str v.Mark.Colors,.str v.Mark.Shape,.str v.Mark.Topmark,.int .i64 v.Light.Kind,.sl (some 2) 1 v.Light.Group.length (fun j=>[.int .i64 (v.Light.Group.getD j default)]),.str v.Light.Letter,.str v.Light.Colors,.int .i64 v.Light.Period,.sl (some 165) 3 v.Sectors.length (fun j=>[.int .i64 ((v.Sectors.getD j default).From),.int .i64 ((v.Sectors.getD j default).To),.str ((v.Sectors.getD j default).Color)]),.int .i64 v.Intensity]=v:=by simp only[dAid,rdI,rdB,rdS,rdL,y4b,ymc,yub,ytb,yve,ylb,yvc]
theorem ync (l:List Aid):decL dAid l.length (fun i=>[.int .i64 ((l.getD i default).Number),.str ((l.getD i default).Name),.int .i64 (((l.getD i default).At).X),.int .i64 (((l.getD i default).At).Y),.int .i64 ((l.getD i default).Height),.int .i64 (((l.getD i default).Mark).Kind),.str (((l.getD i default).Mark).Colors),.str (((l.getD i default).Mark).Shape),.str (((l.getD i default).Mark).Topmark),.int .i64 (((l.getD i default).Light).Kind),.sl (some 2) 1 (((l.getD i default).Light).Group).length (fun j=>[.int .i64 ((((l.getD i default).Light).Group).getD j default)]),.str (((l.getD i default).Light).Letter),.str (((l.getD i default).Light).Colors),.int .i64 (((l.getD i default).Light).Period),.sl (some 165) 3 ((l.getD i default).Sectors).length (fun j=>[.int .i64 ((((l.getD i default).Sectors).getD j default).From),.int .i64 ((((l.getD i default).Sectors).getD j default).To),.str ((((l.getD i default).Sectors).getD j default).Color)]),.int .i64 ((l.getD i default).Intensity)])=l:=(List.map_congr_left fun i _=>yjk (l.getD i default)).trans (yab l)
theorem ytm (l:List Aid) (lo n:Nat):decL dAid n (fun i=>[.int .i64 ((l.getD (lo+i) default).Number),.str ((l.getD (lo+i) default).Name),.int .i64 (((l.getD (lo+i) default).At).X),.int .i64 (((l.getD (lo+i) default).At).Y),.int .i64 ((l.getD (lo+i) default).Height),.int .i64 (((l.getD (lo+i) default).Mark).Kind),.str (((l.getD (lo+i) default).Mark).Colors),.str (((l.getD (lo+i) default).Mark).Shape),.str (((l.getD (lo+i) default).Mark).Topmark),.int .i64 (((l.getD (lo+i) default).Light).Kind),.sl (some 2) 1 (((l.getD (lo+i) default).Light).Group).length (fun j=>[.int .i64 ((((l.getD (lo+i) default).Light).Group).getD j default)]),.str (((l.getD (lo+i) default).Light).Letter),.str (((l.getD (lo+i) default).Light).Colors),.int .i64 (((l.getD (lo+i) default).Light).Period),.sl (some 165) 3 ((l.getD (lo+i) default).Sectors).length (fun j=>[.int .i64 ((((l.getD (lo+i) default).Sectors).getD j default).From),.int .i64 ((((l.getD (lo+i) default).Sectors).getD j default).To),.str ((((l.getD (lo+i) default).Sectors).getD j default).Color)]),.int .i64 ((l.getD (lo+i) default).Intensity)])=subL l lo n:=List.map_congr_left fun i _=>yjk (l.getD (lo+i) default)
theorem y8m (l:List Aid) (n:Nat):decL dAid n (fun i=>[.int .i64 ((l.getD i default).Number),.str ((l.getD i default).Name),.int .i64 (((l.getD i default).At).X),.int .i64 (((l.getD i default).At).Y),.int .i64 ((l.getD i default).Height),.int .i64 (((l.getD i default).Mark).Kind),.str (((l.getD i default).Mark).Colors),.str (((l.getD i default).Mark).Shape),.str (((l.getD i default).Mark).Topmark),.int .i64 (((l.getD i default).Light).Kind),.sl (some 2) 1 (((l.getD i default).Light).Group).length (fun j=>[.int .i64 ((((l.getD i default).Light).Group).getD j default)]),.str (((l.getD i default).Light).Letter),.str (((l.getD i default).Light).Colors),.int .i64 (((l.getD i default).Light).Period),.sl (some 165) 3 ((l.getD i default).Sectors).length (fun j=>[.int .i64 ((((l.getD i default).Sectors).getD j default).From),.int .i64 ((((l.getD i default).Sectors).getD j default).To),.str ((((l.getD i default).Sectors).getD j default).Color)]),.int .i64 ((l.getD i default).Intensity)])=subL l 0 n:=by simp only[subL,Nat.zero_add];exact List.map_congr_left fun i _=>yjk (l.getD i default)
theorem y4f (v:(List Phase)):yrc [.sl none 2 v.length (fun j=>[.str ((v.getD j default).Color),.int .i64 ((v.getD j default).Length)])]=v:=by simp only[yrc,rdI,rdB,rdS,rdL,y4b,ymc,yub,ytb,yve,ylb,yvc,ync]
theorem y6b (l:List (List Phase)):decL yrc l.length (fun i=>[.sl none 2 (l.getD i default).length (fun j=>[.str (((l.getD i default).getD j default).Color),.int .i64 (((l.getD i default).getD j default).Length)])])=l:=(List.map_congr_left fun i _=>y4f (l.getD i default)).trans (yab l)
theorem yqh (l:List (List Phase)) (lo n:Nat):decL yrc n (fun i=>[.sl none 2 (l.getD (lo+i) default).length (fun j=>[.str (((l.getD (lo+i) default).getD j default).Color),.int .i64 (((l.getD (lo+i) default).getD j default).Length)])])=subL l lo n:=List.map_congr_left fun i _=>y4f (l.getD (lo+i) default)
theorem y7h (l:List (List Phase)) (n:Nat):decL yrc n (fun i=>[.sl none 2 (l.getD i default).length (fun j=>[.str (((l.getD i default).getD j default).Color),.int .i64 (((l.getD i default).getD j default).Length)])])=subL l 0 n:=by simp only[subL,Nat.zero_add];exact List.map_congr_left fun i _=>y4f (l.getD i default)
theorem y0e (v:(List Phase)):yrc [.sl (some 204) 2 v.length (fun j=>[.str ((v.getD j default).Color),.int .i64 ((v.getD j default).Length)])]=v:=by simp only[yrc,rdI,rdB,rdS,rdL,y4b,ymc,yub,ytb,yve,ylb,yvc,ync,y6b]
theorem yac (l:List (List Phase)):decL yrc l.length (fun i=>[.sl (some 204) 2 (l.getD i default).length (fun j=>[.str (((l.getD i default).getD j default).Color),.int .i64 (((l.getD i default).getD j default).Length)])])=l:=(List.map_congr_left fun i _=>y0e (l.getD i default)).trans (yab l)
theorem ysg (l:List (List Phase)) (lo n:Nat):decL yrc n (fun i=>[.sl (some 204) 2 (l.getD (lo+i) default).length (fun j=>[.str (((l.getD (lo+i) default).getD j default).Color),.int .i64 (((l.getD (lo+i) default).getD j default).Length)])])=subL l lo n:=List.map_congr_left fun i _=>y0e (l.getD (lo+i) default)
theorem yug (l:List (List Phase)) (n:Nat):decL yrc n (fun i=>[.sl (some 204) 2 (l.getD i default).length (fun j=>[.str (((l.getD i default).getD j default).Color),.int .i64 (((l.getD i default).getD j default).Length)])])=subL l 0 n:=by simp only[subL,Nat.zero_add];exact List.map_congr_left fun i _=>y0e (l.getD i default)
theorem ygt (v:(List (List UInt8))):dLS [.sl none 1 v.length (fun j=>[.str (v.getD j default)])]=v:=by simp only[dLS,rdI,rdB,rdS,rdL,y4b,ymc,yub,ytb,yve,ylb,yvc,ync,y6b,yac]
theorem ylh (l:List (List (List UInt8))):decL dLS l.length (fun i=>[.sl none 1 (l.getD i default).length (fun j=>[.str ((l.getD i default).getD j default)])])=l:=(List.map_congr_left fun i _=>ygt (l.getD i default)).trans (yab l)
theorem ydu (l:List (List (List UInt8))) (lo n:Nat):decL dLS n (fun i=>[.sl none 1 (l.getD (lo+i) default).length (fun j=>[.str ((l.getD (lo+i) default).getD j default)])])=subL l lo n:=List.map_congr_left fun i _=>ygt (l.getD (lo+i) default)
theorem yku (l:List (List (List UInt8))) (n:Nat):decL dLS n (fun i=>[.sl none 1 (l.getD i default).length (fun j=>[.str ((l.getD i default).getD j default)])])=subL l 0 n:=by simp only[subL,Nat.zero_add];exact List.map_congr_left fun i _=>ygt (l.getD i default)
theorem y6n (v:(List (List UInt8))):dLS [.sl (some 9) 1 v.length (fun j=>[.str (v.getD j default)])]=v:=by simp only[dLS,rdI,rdB,rdS,rdL,y4b,ymc,yub,ytb,yve,ylb,yvc,ync,y6b,yac,ylh]
theorem y9g (l:List (List (List UInt8))):decL dLS l.length (fun i=>[.sl (some 9) 1 (l.getD i default).length (fun j=>[.str ((l.getD i default).getD j default)])])=l:=(List.map_congr_left fun i _=>y6n (l.getD i default)).trans (yab l)
theorem yjp (l:List (List (List UInt8))) (lo n:Nat):decL dLS n (fun i=>[.sl (some 9) 1 (l.getD (lo+i) default).length (fun j=>[.str ((l.getD (lo+i) default).getD j default)])])=subL l lo n:=List.map_congr_left fun i _=>y6n (l.getD (lo+i) default)
theorem ypq (l:List (List (List UInt8))) (n:Nat):decL dLS n (fun i=>[.sl (some 9) 1 (l.getD i default).length (fun j=>[.str ((l.getD i default).getD j default)])])=subL l 0 n:=by simp only[subL,Nat.zero_add];exact List.map_congr_left fun i _=>y6n (l.getD i default)
theorem yfg (v:Notice):yqc [.int .i64 v.Number,.int .i64 v.Day,.int .i64 v.Kind,.int .i64 v.Target,.int .i64 v.Aid.Number,.str v.Aid.Name,.int .i64 v.Aid.At.X,.int .i64 v.Aid.At.Y,.int .i64 v.Aid.Height,.int .i64 v.Aid.Mark.Kind,.str v.Aid.Mark.Colors,.str v.Aid.Mark.Shape,.str v.Aid.Mark.Topmark,.int .i64 v.Aid.Light.Kind,.sl none 1 v.Aid.Light.Group.length (fun j=>[.int .i64 (v.Aid.Light.Group.getD j default)]),.str v.Aid.Light.Letter,.str v.Aid.Light.Colors,.int .i64 v.Aid.Light.Period,.sl none 3 v.Aid.Sectors.length (fun j=>[.int .i64 ((v.Aid.Sectors.getD j default).From),.int .i64 ((v.Aid.Sectors.getD j default).To),.str ((v.Aid.Sectors.getD j default).Color)]),.int .i64 v.Aid.Intensity]=v:=by simp only[yqc,rdI,rdB,rdS,rdL,y4b,ymc,yub,ytb,yve,ylb,yvc,ync,y6b,yac,ylh,y9g]
theorem yxe (l:List Notice):decL yqc l.length (fun i=>[.int .i64 ((l.getD i default).Number),.int .i64 ((l.getD i default).Day),.int .i64 ((l.getD i default).Kind),.int .i64 ((l.getD i default).Target),.int .i64 (((l.getD i default).Aid).Number),.str (((l.getD i default).Aid).Name),.int .i64 ((((l.getD i default).Aid).At).X),.int .i64 ((((l.getD i default).Aid).At).Y),.int .i64 (((l.getD i default).Aid).Height),.int .i64 ((((l.getD i default).Aid).Mark).Kind),.str ((((l.getD i default).Aid).Mark).Colors),.str ((((l.getD i default).Aid).Mark).Shape),.str ((((l.getD i default).Aid).Mark).Topmark),.int .i64 ((((l.getD i default).Aid).Light).Kind),.sl none 1 ((((l.getD i default).Aid).Light).Group).length (fun j=>[.int .i64 (((((l.getD i default).Aid).Light).Group).getD j default)]),.str ((((l.getD i default).Aid).Light).Letter),.str ((((l.getD i default).Aid).Light).Colors),.int .i64 ((((l.getD i default).Aid).Light).Period),.sl none 3 (((l.getD i default).Aid).Sectors).length (fun j=>[.int .i64 (((((l.getD i default).Aid).Sectors).getD j default).From),.int .i64 (((((l.getD i default).Aid).Sectors).getD j default).To),.str (((((l.getD i default).Aid).Sectors).getD j default).Color)]),.int .i64 (((l.getD i default).Aid).Intensity)])=l:=(List.map_congr_left fun i _=>yfg (l.getD i default)).trans (yab l)
theorem y0i (l:List Notice) (lo n:Nat):decL yqc n (fun i=>[.int .i64 ((l.getD (lo+i) default).Number),.int .i64 ((l.getD (lo+i) default).Day),.int .i64 ((l.getD (lo+i) default).Kind),.int .i64 ((l.getD (lo+i) default).Target),.int .i64 (((l.getD (lo+i) default).Aid).Number),.str (((l.getD (lo+i) default).Aid).Name),.int .i64 ((((l.getD (lo+i) default).Aid).At).X),.int .i64 ((((l.getD (lo+i) default).Aid).At).Y),.int .i64 (((l.getD (lo+i) default).Aid).Height),.int .i64 ((((l.getD (lo+i) default).Aid).Mark).Kind),.str ((((l.getD (lo+i) default).Aid).Mark).Colors),.str ((((l.getD (lo+i) default).Aid).Mark).Shape),.str ((((l.getD (lo+i) default).Aid).Mark).Topmark),.int .i64 ((((l.getD (lo+i) default).Aid).Light).Kind),.sl none 1 ((((l.getD (lo+i) default).Aid).Light).Group).length (fun j=>[.int .i64 (((((l.getD (lo+i) default).Aid).Light).Group).getD j default)]),.str ((((l.getD (lo+i) default).Aid).Light).Letter),.str ((((l.getD (lo+i) default).Aid).Light).Colors),.int .i64 ((((l.getD (lo+i) default).Aid).Light).Period),.sl none 3 (((l.getD (lo+i) default).Aid).Sectors).length (fun j=>[.int .i64 (((((l.getD (lo+i) default).Aid).Sectors).getD j default).From),.int .i64 (((((l.getD (lo+i) default).Aid).Sectors).getD j default).To),.str (((((l.getD (lo+i) default).Aid).Sectors).getD j default).Color)]),.int .i64 (((l.getD (lo+i) default).Aid).Intensity)])=subL l lo n:=List.map_congr_left fun i _=>yfg (l.getD (lo+i) default)
theorem yti (l:List Notice) (n:Nat):decL yqc n (fun i=>[.int .i64 ((l.getD i default).Number),.int .i64 ((l.getD i default).Day),.int .i64 ((l.getD i default).Kind),.int .i64 ((l.getD i default).Target),.int .i64 (((l.getD i default).Aid).Number),.str (((l.getD i default).Aid).Name),.int .i64 ((((l.getD i default).Aid).At).X),.int .i64 ((((l.getD i default).Aid).At).Y),.int .i64 (((l.getD i default).Aid).Height),.int .i64 ((((l.getD i default).Aid).Mark).Kind),.str ((((l.getD i default).Aid).Mark).Colors),.str ((((l.getD i default).Aid).Mark).Shape),.str ((((l.getD i default).Aid).Mark).Topmark),.int .i64 ((((l.getD i default).Aid).Light).Kind),.sl none 1 ((((l.getD i default).Aid).Light).Group).length (fun j=>[.int .i64 (((((l.getD i default).Aid).Light).Group).getD j default)]),.str ((((l.getD i default).Aid).Light).Letter),.str ((((l.getD i default).Aid).Light).Colors),.int .i64 ((((l.getD i default).Aid).Light).Period),.sl none 3 (((l.getD i default).Aid).Sectors).length (fun j=>[.int .i64 (((((l.getD i default).Aid).Sectors).getD j default).From),.int .i64 (((((l.getD i default).Aid).Sectors).getD j default).To),.str (((((l.getD i default).Aid).Sectors).getD j default).Color)]),.int .i64 (((l.getD i default).Aid).Intensity)])=subL l 0 n:=by simp only[subL,Nat.zero_add];exact List.map_congr_left fun i _=>yfg (l.getD i default)
theorem y2e (v:Notice):yqc [.int .i64 v.Number,.int .i64 v.Day,.int .i64 v.Kind,.int .i64 v.Target,.int .i64 v.Aid.Number,.str v.Aid.Name,.int .i64 v.Aid.At.X,.int .i64 v.Aid.At.Y,.int .i64 v.Aid.Height,.int .i64 v.Aid.Mark.Kind,.str v.Aid.Mark.Colors,.str v.Aid.Mark.Shape,.str v.Aid.Mark.Topmark,.int .i64 v.Aid.Light.Kind,.sl (some 2) 1 v.Aid.Light.Group.length (fun j=>[.int .i64 (v.Aid.Light.Group.getD j default)]),.str v.Aid.Light.Letter,.str v.Aid.Light.Colors,.int .i64 v.Aid.Light.Period,.sl (some 165) 3 v.Aid.Sectors.length (fun j=>[.int .i64 ((v.Aid.Sectors.getD j default).From),.int .i64 ((v.Aid.Sectors.getD j default).To),.str ((v.Aid.Sectors.getD j default).Color)]),.int .i64 v.Aid.Intensity]=v:=by simp only[yqc,rdI,rdB,rdS,rdL,y4b,ymc,yub,ytb,yve,ylb,yvc,ync,y6b,yac,ylh,y9g,yxe]
theorem yhg (l:List Notice):decL yqc l.length (fun i=>[.int .i64 ((l.getD i default).Number),.int .i64 ((l.getD i default).Day),.int .i64 ((l.getD i default).Kind),.int .i64 ((l.getD i default).Target),.int .i64 (((l.getD i default).Aid).Number),.str (((l.getD i default).Aid).Name),.int .i64 ((((l.getD i default).Aid).At).X),.int .i64 ((((l.getD i default).Aid).At).Y),.int .i64 (((l.getD i default).Aid).Height),.int .i64 ((((l.getD i default).Aid).Mark).Kind),.str ((((l.getD i default).Aid).Mark).Colors),.str ((((l.getD i default).Aid).Mark).Shape),.str ((((l.getD i default).Aid).Mark).Topmark),.int .i64 ((((l.getD i default).Aid).Light).Kind),.sl (some 2) 1 ((((l.getD i default).Aid).Light).Group).length (fun j=>[.int .i64 (((((l.getD i default).Aid).Light).Group).getD j default)]),.str ((((l.getD i default).Aid).Light).Letter),.str ((((l.getD i default).Aid).Light).Colors),.int .i64 ((((l.getD i default).Aid).Light).Period),.sl (some 165) 3 (((l.getD i default).Aid).Sectors).length (fun j=>[.int .i64 (((((l.getD i default).Aid).Sectors).getD j default).From),.int .i64 (((((l.getD i default).Aid).Sectors).getD j default).To),.str (((((l.getD i default).Aid).Sectors).getD j default).Color)]),.int .i64 (((l.getD i default).Aid).Intensity)])=l:=(List.map_congr_left fun i _=>y2e (l.getD i default)).trans (yab l)
theorem ylg (l:List Notice) (lo n:Nat):decL yqc n (fun i=>[.int .i64 ((l.getD (lo+i) default).Number),.int .i64 ((l.getD (lo+i) default).Day),.int .i64 ((l.getD (lo+i) default).Kind),.int .i64 ((l.getD (lo+i) default).Target),.int .i64 (((l.getD (lo+i) default).Aid).Number),.str (((l.getD (lo+i) default).Aid).Name),.int .i64 ((((l.getD (lo+i) default).Aid).At).X),.int .i64 ((((l.getD (lo+i) default).Aid).At).Y),.int .i64 (((l.getD (lo+i) default).Aid).Height),.int .i64 ((((l.getD (lo+i) default).Aid).Mark).Kind),.str ((((l.getD (lo+i) default).Aid).Mark).Colors),.str ((((l.getD (lo+i) default).Aid).Mark).Shape),.str ((((l.getD (lo+i) default).Aid).Mark).Topmark),.int .i64 ((((l.getD (lo+i) default).Aid).Light).Kind),.sl (some 2) 1 ((((l.getD (lo+i) default).Aid).Light).Group).length (fun j=>[.int .i64 (((((l.getD (lo+i) default).Aid).Light).Group).getD j default)]),.str ((((l.getD (lo+i) default).Aid).Light).Letter),.str ((((l.getD (lo+i) default).Aid).Light).Colors),.int .i64 ((((l.getD (lo+i) default).Aid).Light).Period),.sl (some 165) 3 (((l.getD (lo+i) default).Aid).Sectors).length (fun j=>[.int .i64 (((((l.getD (lo+i) default).Aid).Sectors).getD j default).From),.int .i64 (((((l.getD (lo+i) default).Aid).Sectors).getD j default).To),.str (((((l.getD (lo+i) default).Aid).Sectors).getD j default).Color)]),.int .i64 (((l.getD (lo+i) default).Aid).Intensity)])=subL l lo n:=List.map_congr_left fun i _=>y2e (l.getD (lo+i) default)
theorem ytg (l:List Notice) (n:Nat):decL yqc n (fun i=>[.int .i64 ((l.getD i default).Number),.int .i64 ((l.getD i default).Day),.int .i64 ((l.getD i default).Kind),.int .i64 ((l.getD i default).Target),.int .i64 (((l.getD i default).Aid).Number),.str (((l.getD i default).Aid).Name),.int .i64 ((((l.getD i default).Aid).At).X),.int .i64 ((((l.getD i default).Aid).At).Y),.int .i64 (((l.getD i default).Aid).Height),.int .i64 ((((l.getD i default).Aid).Mark).Kind),.str ((((l.getD i default).Aid).Mark).Colors),.str ((((l.getD i default).Aid).Mark).Shape),.str ((((l.getD i default).Aid).Mark).Topmark),.int .i64 ((((l.getD i default).Aid).Light).Kind),.sl (some 2) 1 ((((l.getD i default).Aid).Light).Group).length (fun j=>[.int .i64 (((((l.getD i default).Aid).Light).Group).getD j default)]),.str ((((l.getD i default).Aid).Light).Letter),.str ((((l.getD i default).Aid).Light).Colors),.int .i64 ((((l.getD i default).Aid).Light).Period),.sl (some 165) 3 (((l.getD i default).Aid).Sectors).length (fun j=>[.int .i64 (((((l.getD i default).Aid).Sectors).getD j default).From),.int .i64 (((((l.getD i default).Aid).Sectors).getD j default).To),.str (((((l.getD i default).Aid).Sectors).getD j default).Color)]),.int .i64 (((l.getD i default).Aid).Intensity)])=subL l 0 n:=by simp only[subL,Nat.zero_add];exact List.map_congr_left fun i _=>y2e (l.getD i default)
def bdS (v:List UInt8):Prop:=v.length<1099511627776
instance:DecidablePred bdS:=fun v=>inferInstanceAs (Decidable (v.length<1099511627776))
def bdMark (v:Mark):Prop:=bdS v.Colors/\bdS v.Shape/\bdS v.Topmark
instance:DecidablePred bdMark:=fun v=>by unfold bdMark;infer_instance
def bdLIi64 (v:(List Int)):Prop:=v.length<1099511627776
instance:DecidablePred bdLIi64:=fun v=>by unfold bdLIi64;infer_instance
def bdCharacter (v:Character):Prop:=bdLIi64 v.Group/\bdS v.Letter/\bdS v.Colors
instance:DecidablePred bdCharacter:=fun v=>by unfold bdCharacter;infer_instance
def bdSector (v:Sector):Prop:=bdS v.Color
instance:DecidablePred bdSector:=fun v=>by unfold bdSector;infer_instance
def bdLSector (v:(List Sector)):Prop:=v.length<1099511627776/\∀ x∈v,bdSector x
instance:DecidablePred bdLSector:=fun v=>by unfold bdLSector;infer_instance
def bdAid (v:Aid):Prop:=bdS v.Name/\bdMark v.Mark/\bdCharacter v.Light/\bdLSector v.Sectors
instance:DecidablePred bdAid:=fun v=>by unfold bdAid;infer_instance
def bdNotice (v:Notice):Prop:=bdAid v.Aid
instance:DecidablePred bdNotice:=fun v=>by unfold bdNotice;infer_instance
def bdLAid (v:(List Aid)):Prop:=v.length<1099511627776/\∀ x∈v,bdAid x
instance:DecidablePred bdLAid:=fun v=>by unfold bdLAid;infer_instance
def bdEdition (v:Edition):Prop:=bdLAid v.Aids
instance:DecidablePred bdEdition:=fun v=>by unfold bdEdition;infer_instance
def bdLIu8 (v:(List Int)):Prop:=v.length<1099511627776
instance:DecidablePred bdLIu8:=fun v=>by unfold bdLIu8;infer_instance
def bdl00Src (v:l00Src):Prop:=bdLIu8 v.code
instance:DecidablePred bdl00Src:=fun v=>by unfold bdl00Src;infer_instance
def bdDanger (v:Danger):Prop:=bdS v.Name
instance:DecidablePred bdDanger:=fun v=>by unfold bdDanger;infer_instance
def bdPhase (v:Phase):Prop:=bdS v.Color
instance:DecidablePred bdPhase:=fun v=>by unfold bdPhase;infer_instance
def bdLPhase (v:(List Phase)):Prop:=v.length<1099511627776/\∀ x∈v,bdPhase x
instance:DecidablePred bdLPhase:=fun v=>by unfold bdLPhase;infer_instance
def bdLS (v:(List (List UInt8))):Prop:=v.length<1099511627776/\∀ x∈v,bdS x
instance:DecidablePred bdLS:=fun v=>by unfold bdLS;infer_instance
def bwS (v:List UInt8):Prop:=v.length<9223372036854775808
instance:DecidablePred bwS:=fun v=>inferInstanceAs (Decidable (v.length<9223372036854775808))
def bwMark (v:Mark):Prop:=bwS v.Colors/\bwS v.Shape/\bwS v.Topmark
instance:DecidablePred bwMark:=fun v=>by unfold bwMark;infer_instance
def bwLIi64 (v:(List Int)):Prop:=v.length<9223372036854775808
instance:DecidablePred bwLIi64:=fun v=>by unfold bwLIi64;infer_instance
def bwCharacter (v:Character):Prop:=bwLIi64 v.Group/\bwS v.Letter/\bwS v.Colors
instance:DecidablePred bwCharacter:=fun v=>by unfold bwCharacter;infer_instance
def bwSector (v:Sector):Prop:=bwS v.Color
instance:DecidablePred bwSector:=fun v=>by unfold bwSector;infer_instance
def bwLSector (v:(List Sector)):Prop:=v.length<9223372036854775808/\∀ x∈v,bwSector x
instance:DecidablePred bwLSector:=fun v=>by unfold bwLSector;infer_instance
def bwAid (v:Aid):Prop:=bwS v.Name/\bwMark v.Mark/\bwCharacter v.Light/\bwLSector v.Sectors
instance:DecidablePred bwAid:=fun v=>by unfold bwAid;infer_instance
def bwNotice (v:Notice):Prop:=bwAid v.Aid
instance:DecidablePred bwNotice:=fun v=>by unfold bwNotice;infer_instance
def bwLAid (v:(List Aid)):Prop:=v.length<9223372036854775808/\∀ x∈v,bwAid x
instance:DecidablePred bwLAid:=fun v=>by unfold bwLAid;infer_instance
def bwEdition (v:Edition):Prop:=bwLAid v.Aids
instance:DecidablePred bwEdition:=fun v=>by unfold bwEdition;infer_instance
def bwLIu8 (v:(List Int)):Prop:=v.length<9223372036854775808
instance:DecidablePred bwLIu8:=fun v=>by unfold bwLIu8;infer_instance
def bwl00Src (v:l00Src):Prop:=bwLIu8 v.code
instance:DecidablePred bwl00Src:=fun v=>by unfold bwl00Src;infer_instance
def bwDanger (v:Danger):Prop:=bwS v.Name
instance:DecidablePred bwDanger:=fun v=>by unfold bwDanger;infer_instance
def bwPhase (v:Phase):Prop:=bwS v.Color
instance:DecidablePred bwPhase:=fun v=>by unfold bwPhase;infer_instance
def bwLPhase (v:(List Phase)):Prop:=v.length<9223372036854775808/\∀ x∈v,bwPhase x
instance:DecidablePred bwLPhase:=fun v=>by unfold bwLPhase;infer_instance
def bwLS (v:(List (List UInt8))):Prop:=v.length<9223372036854775808/\∀ x∈v,bwS x
instance:DecidablePred bwLS:=fun v=>by unfold bwLS;infer_instance
theorem y7p (v:List UInt8) (h:ywc [.str v]):bwS v:=Nat.lt_succ_of_le h.1
theorem yih (v:Mark) (h:ywc (yzg v)):bwMark v:=⟨Nat.lt_succ_of_le h.2.1,Nat.lt_succ_of_le h.2.2.1,Nat.lt_succ_of_le h.2.2.2.1⟩
theorem yv (v:Character) (h:ywc (ym v)):bwCharacter v:=⟨Nat.lt_succ_of_le (yf h.2.1).1,Nat.lt_succ_of_le h.2.2.1,Nat.lt_succ_of_le h.2.2.2.1⟩
theorem yfb (v:Sector) (h:ywc (yw v)):bwSector v:=Nat.lt_succ_of_le h.2.2.1
theorem yeb (v:Aid) (h:ywc (eAid v)):bwAid v:=⟨Nat.lt_succ_of_le h.2.1,⟨Nat.lt_succ_of_le h.2.2.2.2.2.2.1,Nat.lt_succ_of_le h.2.2.2.2.2.2.2.1,Nat.lt_succ_of_le h.2.2.2.2.2.2.2.2.1⟩,⟨Nat.lt_succ_of_le (yf h.2.2.2.2.2.2.2.2.2.2.1).1,Nat.lt_succ_of_le h.2.2.2.2.2.2.2.2.2.2.2.1,Nat.lt_succ_of_le h.2.2.2.2.2.2.2.2.2.2.2.2.1⟩,⟨Nat.lt_succ_of_le (yf h.2.2.2.2.2.2.2.2.2.2.2.2.2.2.1).1,fun y hy=>yfb y ((yf h.2.2.2.2.2.2.2.2.2.2.2.2.2.2.1).2 y hy)⟩⟩
theorem y6 (v:l00Src) (h:ywc (yi v)):bwl00Src v:=Nat.lt_succ_of_le (yf h.1).1
theorem y5 (v:Danger) (h:ywc (yr v)):bwDanger v:=Nat.lt_succ_of_le h.1
theorem fl5 (p:Nat->Prop):(∀ i,i<5->p i)=(p 0/\p 1/\p 2/\p 3/\p 4):=by
 apply propext;refine⟨fun h=>⟨h 0 (by omega),h 1 (by omega),h 2 (by omega),h 3 (by omega),h 4 (by omega)⟩,fun h i hi => ?_⟩;obtain⟨h0,h1,h2,h3,h4⟩:=h;have hc:i=0\/i=1\/i=2\/i=3\/i=4:=by omega
 rcases hc with rfl|rfl|rfl|rfl|rfl<;>assumption
theorem yhy {α:Type} (d:List AV->α) (f:Nat->List AV):decL d 5 f=[d (f 0),d (f 1),d (f 2),d (f 3),d (f 4)]:=rfl
theorem fl6 (p:Nat->Prop):(∀ i,i<6->p i)=(p 0/\p 1/\p 2/\p 3/\p 4/\p 5):=by
 apply propext;refine⟨fun h=>⟨h 0 (by omega),h 1 (by omega),h 2 (by omega),h 3 (by omega),h 4 (by omega),h 5 (by omega)⟩,fun h i hi => ?_⟩;obtain⟨h0,h1,h2,h3,h4,h5⟩:=h;have hc:i=0\/i=1\/i=2\/i=3\/i=4\/i=5:=by omega
 rcases hc with rfl|rfl|rfl|rfl|rfl|rfl<;>assumption
theorem y3y {α:Type} (d:List AV->α) (f:Nat->List AV):decL d 6 f=[d (f 0),d (f 1),d (f 2),d (f 3),d (f 4),d (f 5)]:=rfl
theorem fl7 (p:Nat->Prop):(∀ i,i<7->p i)=(p 0/\p 1/\p 2/\p 3/\p 4/\p 5/\p 6):=by
 apply propext;refine⟨fun h=>⟨h 0 (by omega),h 1 (by omega),h 2 (by omega),h 3 (by omega),h 4 (by omega),h 5 (by omega),h 6 (by omega)⟩,fun h i hi => ?_⟩;obtain⟨h0,h1,h2,h3,h4,h5,h6⟩:=h;have hc:i=0\/i=1\/i=2\/i=3\/i=4\/i=5\/i=6:=by omega
 rcases hc with rfl|rfl|rfl|rfl|rfl|rfl|rfl<;>assumption
theorem yjy {α:Type} (d:List AV->α) (f:Nat->List AV):decL d 7 f=[d (f 0),d (f 1),d (f 2),d (f 3),d (f 4),d (f 5),d (f 6)]:=rfl
theorem fl8 (p:Nat->Prop):(∀ i,i<8->p i)=(p 0/\p 1/\p 2/\p 3/\p 4/\p 5/\p 6/\p 7):=by
 apply propext;refine⟨fun h=>⟨h 0 (by omega),h 1 (by omega),h 2 (by omega),h 3 (by omega),h 4 (by omega),h 5 (by omega),h 6 (by omega),h 7 (by omega)⟩,fun h i hi => ?_⟩;obtain⟨h0,h1,h2,h3,h4,h5,h6,h7⟩:=h;have hc:i=0\/i=1\/i=2\/i=3\/i=4\/i=5\/i=6\/i=7:=by omega
 rcases hc with rfl|rfl|rfl|rfl|rfl|rfl|rfl|rfl<;>assumption
theorem yry {α:Type} (d:List AV->α) (f:Nat->List AV):decL d 8 f=[d (f 0),d (f 1),d (f 2),d (f 3),d (f 4),d (f 5),d (f 6),d (f 7)]:=rfl
theorem yv0 {α:Type} [Inhabited α] (x0 x1:α):subL [x0,x1] 0 2=[x0,x1]:=rfl
theorem yg0 {α:Type} [Inhabited α] (x0 x1 x2:α):subL [x0,x1,x2] 0 3=[x0,x1,x2]:=rfl
theorem yc0 {α:Type} [Inhabited α] (x0 x1 x2 x3:α):subL [x0,x1,x2,x3] 0 4=[x0,x1,x2,x3]:=rfl
theorem yk0 {α:Type} [Inhabited α] (x0 x1 x2 x3 x4:α):subL [x0,x1,x2,x3,x4] 0 5=[x0,x1,x2,x3,x4]:=rfl
theorem yj0 {α:Type} [Inhabited α] (x0 x1 x2 x3 x4 x5:α):subL [x0,x1,x2,x3,x4,x5] 0 6=[x0,x1,x2,x3,x4,x5]:=rfl
theorem yu0 {α:Type} [Inhabited α] (x0 x1 x2 x3 x4 x5 x6:α):subL [x0,x1,x2,x3,x4,x5,x6] 0 7=[x0,x1,x2,x3,x4,x5,x6]:=rfl
theorem ym0 {α:Type} [Inhabited α] (x0 x1 x2 x3 x4 x5 x6 x7:α):subL [x0,x1,x2,x3,x4,x5,x6,x7] 0 8=[x0,x1,x2,x3,x4,x5,x6,x7]:=rfl
theorem yq0 {α:Type} [Inhabited α] (x0 x1 x2 x3 x4 x5 x6 x7 x8:α):subL [x0,x1,x2,x3,x4,x5,x6,x7,x8] 0 9=[x0,x1,x2,x3,x4,x5,x6,x7,x8]:=rfl
theorem yny {α:Type} [Inhabited α] (x0 x1 x2 x3 x4 x5 x6 x7 x8 x9:α):subL [x0,x1,x2,x3,x4,x5,x6,x7,x8,x9] 0 10=[x0,x1,x2,x3,x4,x5,x6,x7,x8,x9]:=rfl
theorem ywy {α:Type} [Inhabited α] (x0 x1 x2 x3 x4 x5 x6 x7 x8 x9 x10:α):subL [x0,x1,x2,x3,x4,x5,x6,x7,x8,x9,x10] 0 11=[x0,x1,x2,x3,x4,x5,x6,x7,x8,x9,x10]:=rfl
theorem yly {α:Type} [Inhabited α] (x0 x1 x2 x3 x4 x5 x6 x7 x8 x9 x10 x11:α):subL [x0,x1,x2,x3,x4,x5,x6,x7,x8,x9,x10,x11] 0 12=[x0,x1,x2,x3,x4,x5,x6,x7,x8,x9,x10,x11]:=rfl
theorem ycy {α:Type} [Inhabited α] (x0 x1 x2 x3 x4 x5 x6 x7 x8 x9 x10 x11 x12:α):subL [x0,x1,x2,x3,x4,x5,x6,x7,x8,x9,x10,x11,x12] 0 13=[x0,x1,x2,x3,x4,x5,x6,x7,x8,x9,x10,x11,x12]:=rfl
theorem ygy {α:Type} [Inhabited α] (x0 x1 x2 x3 x4 x5 x6 x7 x8 x9 x10 x11 x12 x13:α):subL [x0,x1,x2,x3,x4,x5,x6,x7,x8,x9,x10,x11,x12,x13] 0 14=[x0,x1,x2,x3,x4,x5,x6,x7,x8,x9,x10,x11,x12,x13]:=rfl
theorem sv:type_of% (
 And.intro @wGO.eq_def <|
 And.intro @wQ.eq_def <|
 And.intro @rdQ.eq_def <|
 And.intro @ynp <|
 And.intro @fl1 <|
 And.intro @fl2 <|
 And.intro @fl3 <|
 And.intro @fl4 <|
 And.intro @ypy <|
 And.intro @yvy <|
 And.intro @y0y <|
 And.intro @ymy <|
 And.intro @yfy <|
 And.intro @fl5 <|
 And.intro @fl6 <|
 And.intro @fl7 <|
 And.intro @fl8 <|
 And.intro @yhy <|
 And.intro @y3y <|
 And.intro @yjy <|
 And.intro @yry <|
 And.intro @yv0 <|
 And.intro @yg0 <|
 And.intro @yc0 <|
 And.intro @yk0 <|
 And.intro @yj0 <|
 And.intro @yu0 <|
 And.intro @ym0 <|
 And.intro @yq0 <|
 And.intro @yny <|
 And.intro @ywy <|
 And.intro @yly <|
 And.intro @ycy <|
 And.intro @ygy <|
 And.intro @eAid.eq_1 <|
 And.intro @dAid.eq_1 <|
 And.intro @y0s <|
 And.intro @yoe.eq_1 <|
 And.intro @yx.eq_1 <|
 And.intro @y7.eq_1 <|
 And.intro @y2m <|
 And.intro @yzg.eq_1 <|
 And.intro @yok.eq_1 <|
 And.intro @y6p <|
 And.intro @ym.eq_1 <|
 And.intro @ye.eq_1 <|
 And.intro @yjf <|
 And.intro @ydc.eq_1 <|
 And.intro @yw.eq_1 <|
 And.intro @y8.eq_1 <|
 And.intro @y5j <|
 And.intro @ykt.eq_1 <|
 And.intro @yqc.eq_1 <|
 And.intro @ysj <|
 And.intro @yzp.eq_1 <|
 And.intro @ytq.eq_1 <|
 And.intro @ygq.eq_1 <|
 And.intro @y4i <|
 And.intro @yfm.eq_1 <|
 And.intro @yi.eq_1 <|
 And.intro @yj.eq_1 <|
 And.intro @yjj <|
 And.intro @ycq.eq_1 <|
 And.intro @yr.eq_1 <|
 And.intro @yu.eq_1 <|
 And.intro @ytj <|
 And.intro @yhu.eq_1 <|
 And.intro @ywj.eq_1 <|
 And.intro @y6m <|
 And.intro @yq.eq_1 <|
 And.intro @ydb.eq_1 <|
 And.intro @y4b <|
 And.intro @yjn <|
 And.intro @y3m <|
 And.intro @eIu8.eq_1 <|
 And.intro @dIu8.eq_1 <|
 And.intro @ymc <|
 And.intro @y4p <|
 And.intro @yiq <|
 And.intro @yks.eq_1 <|
 And.intro @yrc.eq_1 <|
 And.intro @eLS.eq_1 <|
 And.intro @dLS.eq_1 <|
 And.intro @yub <|
 And.intro @yoj <|
 And.intro @yfj <|
 And.intro @ytb <|
 And.intro @ylj <|
 And.intro @y9j <|
 And.intro @eS.eq_1 <|
 And.intro @dS.eq_1 <|
 And.intro @yve <|
 And.intro @yiy <|
 And.intro @yoy <|
 And.intro @ylb <|
 And.intro @yrh <|
 And.intro @ymi <|
 And.intro @yvc <|
 And.intro @y4o <|
 And.intro @y7o <|
 And.intro @ync <|
 And.intro @ytm <|
 And.intro @y8m <|
 And.intro @y6b <|
 And.intro @yqh <|
 And.intro @y7h <|
 And.intro @yac <|
 And.intro @ysg <|
 And.intro @yug <|
 And.intro @ylh <|
 And.intro @ydu <|
 And.intro @yku <|
 And.intro @y9g <|
 And.intro @yjp <|
 And.intro @ypq <|
 And.intro @yxe <|
 And.intro @y0i <|
 And.intro @yti <|
 And.intro @yhg <|
 And.intro @ylg <| @ytg):=
 And.intro @wGO.eq_def <|
 And.intro @wQ.eq_def <|
 And.intro @rdQ.eq_def <|
 And.intro @ynp <|
 And.intro @fl1 <|
 And.intro @fl2 <|
 And.intro @fl3 <|
 And.intro @fl4 <|
 And.intro @ypy <|
 And.intro @yvy <|
 And.intro @y0y <|
 And.intro @ymy <|
 And.intro @yfy <|
 And.intro @fl5 <|
 And.intro @fl6 <|
 And.intro @fl7 <|
 And.intro @fl8 <|
 And.intro @yhy <|
 And.intro @y3y <|
 And.intro @yjy <|
 And.intro @yry <|
 And.intro @yv0 <|
 And.intro @yg0 <|
 And.intro @yc0 <|
 And.intro @yk0 <|
 And.intro @yj0 <|
 And.intro @yu0 <|
 And.intro @ym0 <|
 And.intro @yq0 <|
 And.intro @yny <|
 And.intro @ywy <|
 And.intro @yly <|
 And.intro @ycy <|
 And.intro @ygy <|
 And.intro @eAid.eq_1 <|
 And.intro @dAid.eq_1 <|
 And.intro @y0s <|
 And.intro @yoe.eq_1 <|
 And.intro @yx.eq_1 <|
 And.intro @y7.eq_1 <|
 And.intro @y2m <|
 And.intro @yzg.eq_1 <|
 And.intro @yok.eq_1 <|
 And.intro @y6p <|
 And.intro @ym.eq_1 <|
 And.intro @ye.eq_1 <|
 And.intro @yjf <|
 And.intro @ydc.eq_1 <|
 And.intro @yw.eq_1 <|
 And.intro @y8.eq_1 <|
 And.intro @y5j <|
 And.intro @ykt.eq_1 <|
 And.intro @yqc.eq_1 <|
 And.intro @ysj <|
 And.intro @yzp.eq_1 <|
 And.intro @ytq.eq_1 <|
 And.intro @ygq.eq_1 <|
 And.intro @y4i <|
 And.intro @yfm.eq_1 <|
 And.intro @yi.eq_1 <|
 And.intro @yj.eq_1 <|
 And.intro @yjj <|
 And.intro @ycq.eq_1 <|
 And.intro @yr.eq_1 <|
 And.intro @yu.eq_1 <|
 And.intro @ytj <|
 And.intro @yhu.eq_1 <|
 And.intro @ywj.eq_1 <|
 And.intro @y6m <|
 And.intro @yq.eq_1 <|
 And.intro @ydb.eq_1 <|
 And.intro @y4b <|
 And.intro @yjn <|
 And.intro @y3m <|
 And.intro @eIu8.eq_1 <|
 And.intro @dIu8.eq_1 <|
 And.intro @ymc <|
 And.intro @y4p <|
 And.intro @yiq <|
 And.intro @yks.eq_1 <|
 And.intro @yrc.eq_1 <|
 And.intro @eLS.eq_1 <|
 And.intro @dLS.eq_1 <|
 And.intro @yub <|
 And.intro @yoj <|
 And.intro @yfj <|
 And.intro @ytb <|
 And.intro @ylj <|
 And.intro @y9j <|
 And.intro @eS.eq_1 <|
 And.intro @dS.eq_1 <|
 And.intro @yve <|
 And.intro @yiy <|
 And.intro @yoy <|
 And.intro @ylb <|
 And.intro @yrh <|
 And.intro @ymi <|
 And.intro @yvc <|
 And.intro @y4o <|
 And.intro @y7o <|
 And.intro @ync <|
 And.intro @ytm <|
 And.intro @y8m <|
 And.intro @y6b <|
 And.intro @yqh <|
 And.intro @y7h <|
 And.intro @yac <|
 And.intro @ysg <|
 And.intro @yug <|
 And.intro @ylh <|
 And.intro @ydu <|
 And.intro @yku <|
 And.intro @y9g <|
 And.intro @yjp <|
 And.intro @ypq <|
 And.intro @yxe <|
 And.intro @y0i <|
 And.intro @yti <|
 And.intro @yhg <|
 And.intro @ylg <| @ytg
theorem bdv:type_of% (And.intro @bdS.eq_1 <| And.intro @bdMark.eq_1 <| And.intro @bdLIi64.eq_1 <| And.intro @bdCharacter.eq_1 <| And.intro @bdSector.eq_1 <| And.intro @bdLSector.eq_1 <| And.intro @bdAid.eq_1 <| And.intro @bdNotice.eq_1 <| And.intro @bdLAid.eq_1 <| And.intro @bdEdition.eq_1 <| And.intro @bdLIu8.eq_1 <| And.intro @bdl00Src.eq_1 <| And.intro @bdDanger.eq_1 <| And.intro @bdPhase.eq_1 <| And.intro @bdLPhase.eq_1 <| And.intro @bdLS.eq_1 <| And.intro @bwS.eq_1 <| And.intro @bwMark.eq_1 <| And.intro @bwLIi64.eq_1 <| And.intro @bwCharacter.eq_1 <| And.intro @bwSector.eq_1 <| And.intro @bwLSector.eq_1 <| And.intro @bwAid.eq_1 <| And.intro @bwNotice.eq_1 <| And.intro @bwLAid.eq_1 <| And.intro @bwEdition.eq_1 <| And.intro @bwLIu8.eq_1 <| And.intro @bwl00Src.eq_1 <| And.intro @bwDanger.eq_1 <| And.intro @bwPhase.eq_1 <| And.intro @bwLPhase.eq_1 <| And.intro @bwLS.eq_1 <| @Nat.le_refl):=
 And.intro @bdS.eq_1 <| And.intro @bdMark.eq_1 <| And.intro @bdLIi64.eq_1 <| And.intro @bdCharacter.eq_1 <| And.intro @bdSector.eq_1 <| And.intro @bdLSector.eq_1 <| And.intro @bdAid.eq_1 <| And.intro @bdNotice.eq_1 <| And.intro @bdLAid.eq_1 <| And.intro @bdEdition.eq_1 <| And.intro @bdLIu8.eq_1 <| And.intro @bdl00Src.eq_1 <| And.intro @bdDanger.eq_1 <| And.intro @bdPhase.eq_1 <| And.intro @bdLPhase.eq_1 <| And.intro @bdLS.eq_1 <| And.intro @bwS.eq_1 <| And.intro @bwMark.eq_1 <| And.intro @bwLIi64.eq_1 <| And.intro @bwCharacter.eq_1 <| And.intro @bwSector.eq_1 <| And.intro @bwLSector.eq_1 <| And.intro @bwAid.eq_1 <| And.intro @bwNotice.eq_1 <| And.intro @bwLAid.eq_1 <| And.intro @bwEdition.eq_1 <| And.intro @bwLIu8.eq_1 <| And.intro @bwl00Src.eq_1 <| And.intro @bwDanger.eq_1 <| And.intro @bwPhase.eq_1 <| And.intro @bwLPhase.eq_1 <| And.intro @bwLS.eq_1 <| @Nat.le_refl
structure SrcOk (n:Int) (s:l00Src):Prop where
 lo:0<=s.at_
 hi:s.at_<=n
 by_:∀ v∈s.code,0<=v/\v<=255
theorem SrcOk.mono {n m:Int} {s:l00Src} (h:SrcOk n s) (hm:n<=m):SrcOk m s:=⟨h.lo,Int.le_trans h.hi hm,h.by_⟩
end Go.Ab
