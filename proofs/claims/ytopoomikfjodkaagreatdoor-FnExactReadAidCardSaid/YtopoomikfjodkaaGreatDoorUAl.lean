/- A part of a proof: walks of functions and lemmas of our own. No conditions. -/
import Derived.Test.YtopoomikfjodkaaGreatDoorUAk
import Derived.Test.YtopoomikfjodkaaGreatDoorUAh
import Derived.KernelRfl
import Derived.Lib.LaidTab
import Derived.Lib.Fields
import Derived.Lib.ItoaNum
import Derived.Test.YtopoomikfjodkaaGreatDoorProg
set_option linter.unusedSectionVars false
set_option linter.unusedVariables false
set_option linter.unusedSimpArgs false
set_option maxHeartbeats 1000000
namespace Go.Ab
open Go Go.Proofs
def tn0:String:= "internal/strconv.uint64pow10"
def tn1:String:= "strings.asciiSpace"
def yzn (w:World):Prop:=(Go.Lib.TabIs Tryz.prog w tn0 .u64 Go.Lib.pow10Tab∧∃ m,w.cell? ⟨2,0,none⟩=some (.int .i64 m))∧(∃ te pe,w.cell? ⟨4,0,none⟩=some (.iface te pe))∧(∃ te pe,w.cell? ⟨5,0,none⟩=some (.iface te pe))∧Go.Lib.TabIs Tryz.prog w tn1 .u8 Go.Lib.asciiSpaceTab
theorem g0:Tryz.prog.globalNamed tn0=some 3:=by kernel_rfl
theorem g1:Tryz.prog.globalNamed tn1=some 0:=by kernel_rfl
theorem yku {w:World} (h:yzn w):5<w.heap.size:=by
 obtain⟨te,pe,h⟩:=h.2.2.1
 by_cases hl:5<w.heap.size
 ·exact hl
 ·have h5:w.heap[5]? = none:=Array.getElem?_eq_none (by omega)
  unfold World.cell? at h
  simp[h5]at h
theorem yfh {w w':World} {b:Nat} (h:w'.heap[b]? = w.heap[b]?):w'.cell? ⟨b,0,none⟩=w.cell? ⟨b,0,none⟩:=by
 unfold World.cell?
 simp only[h]
instance inv0:Inv:=⟨yzn,fun b=>b≤5,fun w h b hb=>by have:=yku h;omega,fun w w' h ho hb=>by
  obtain⟨⟨h1,h2⟩,h3,h4,h5⟩:=h
  refine⟨⟨?_,by rw[yfh (hb 2 (by omega))];exact h2⟩,by rw[yfh (hb 4 (by omega))];exact h3,by rw[yfh (hb 5 (by omega))];exact h4,?_⟩
  ·unfold Go.Lib.TabIs World.var? at h1 ⊢
   rw[g0]at h1 ⊢
   simp only[Option.bind_some]at h1 ⊢
   rw[hb 3 (by omega)]
   exact h1
  ·unfold Go.Lib.TabIs World.var? at h5 ⊢
   rw[g1]at h5 ⊢
   simp only[Option.bind_some]at h5 ⊢
   rw[hb 0 (by omega)]
   exact h5⟩
def wGO {α : Type} (e : α → List AV) (d : List AV → α) : AV → Prop
 | .agg cs=>simOL cs (e (d cs))
 | _=>False
theorem yax {α:Type} [Inhabited α] {e:α→List AV} {d:List AV→α} {a:AV} (h:wGO e d a):simO a (.agg (e (rdG d a))):=by
 cases a<;>simp_all[wGO,rdG,simO]
def rdQ {α : Type} [Inhabited α] (d : List AV → α) : AV → α
 | .op cs=>d cs
 | _=>default
def wQ {α : Type} (e : α → List AV) (d : List AV → α) : AV → Prop
 | .op cs=>cs=e (d cs)∨simOL cs (e (d cs))
 | _=>False
theorem yu1 {α:Type} [Inhabited α] {e:α→List AV} {d:List AV→α} {a:AV} (h:wQ e d a):simO a (.op (e (rdQ d a))):=by
 cases a with
 | op cs=>
  simp only[wQ]at h
  simp only[rdQ,simO]
  rcases h with h|h
  ·rw[← h];exact y7 _
  ·exact h
 | _=>simp[wQ]at h
def G:Env:=[(2,⟨.int .i64,1,8,[.int .i64 0],true⟩),
 (3,⟨.int .i64,1,8,[.int .i64 0],true⟩),
 (4,⟨.bool,1,1,[.bool false],true⟩),
 (5,⟨.int .u8,1,1,[.int .u8 0],true⟩),
 (9,⟨.string,1,16,[.str []],true⟩),
 (21,⟨.int .i32,1,4,[.int .i32 0],true⟩),
 (22,⟨.slice 5,1,24,[.nils],true⟩),
 (25,⟨.struct [(0,2),(1,9),(2,9),(3,9)] true,4,56,[.int .i64 0,.str [],.str [],.str []],true⟩),
 (34,⟨.slice 2,1,24,[.nils],true⟩),
 (36,⟨.struct [(0,2),(1,34),(2,9),(3,9),(4,2)] true,5,72,[.int .i64 0,.nils,.str [],.str [],.int .i64 0],true⟩),
 (49,⟨.struct [(0,2),(1,2)] true,2,16,[.int .i64 0,.int .i64 0],true⟩),
 (50,⟨.struct [(0,2),(1,9),(2,9),(3,9)] true,4,56,[.int .i64 0,.str [],.str [],.str []],true⟩),
 (51,⟨.struct [(0,2),(1,34),(2,9),(3,9),(4,2)] true,5,72,[.int .i64 0,.nils,.str [],.str [],.int .i64 0],true⟩),
 (52,⟨.slice 223,1,24,[.nils],true⟩),
 (54,⟨.struct [(0,2),(1,9),(2,49),(4,2),(5,50),(9,51),(14,52),(15,2)] true,16,208,[.int .i64 0,.str [],.int .i64 0,.int .i64 0,.int .i64 0,.int .i64 0,.str [],.str [],.str [],.int .i64 0,.nils,.str [],.str [],.int .i64 0,.nils,.int .i64 0],true⟩),
 (57,⟨.struct [(0,2),(1,2)] true,2,16,[.int .i64 0,.int .i64 0],true⟩),
 (58,⟨.slice 188,1,24,[.nils],true⟩),
 (60,⟨.struct [(0,2),(1,9),(2,57),(4,2),(5,25),(9,36),(14,58),(15,2)] true,16,208,[.int .i64 0,.str [],.int .i64 0,.int .i64 0,.int .i64 0,.int .i64 0,.str [],.str [],.str [],.int .i64 0,.nils,.str [],.str [],.int .i64 0,.nils,.int .i64 0],true⟩),
 (64,⟨.slice 54,1,24,[.nils],true⟩),
 (66,⟨.slice 153,1,24,[.nils],true⟩),
 (69,⟨.slice 60,1,24,[.nils],true⟩),
 (77,⟨.struct [(0,2),(1,2),(2,2),(3,2),(4,54)] true,20,240,[.int .i64 0,.int .i64 0,.int .i64 0,.int .i64 0,.int .i64 0,.str [],.int .i64 0,.int .i64 0,.int .i64 0,.int .i64 0,.str [],.str [],.str [],.int .i64 0,.nils,.str [],.str [],.int .i64 0,.nils,.int .i64 0],true⟩),
 (81,⟨.struct [(0,2),(1,2),(2,2),(3,2),(4,60)] true,20,240,[.int .i64 0,.int .i64 0,.int .i64 0,.int .i64 0,.int .i64 0,.str [],.int .i64 0,.int .i64 0,.int .i64 0,.int .i64 0,.str [],.str [],.str [],.int .i64 0,.nils,.str [],.str [],.int .i64 0,.nils,.int .i64 0],true⟩),
 (86,⟨.struct [(0,2),(1,2),(2,64)] true,3,40,[.int .i64 0,.int .i64 0,.nils],true⟩),
 (91,⟨.struct [(0,2),(1,2),(2,69)] true,3,40,[.int .i64 0,.int .i64 0,.nils],true⟩),
 (108,⟨.slice 192,1,24,[.nils],true⟩),
 (122,⟨.slice 9,1,24,[.nils],true⟩),
 (153,⟨.struct [(0,9),(1,9)] true,2,32,[.str [],.str []],true⟩),
 (172,⟨.array 7 4,7,7,[.bool false,.bool false,.bool false,.bool false,.bool false,.bool false,.bool false],true⟩),
 (188,⟨.struct [(0,2),(1,2),(2,9)] true,3,32,[.int .i64 0,.int .i64 0,.str []],true⟩),
 (192,⟨.struct [(0,9),(1,9)] true,2,32,[.str [],.str []],true⟩),
 (223,⟨.struct [(0,2),(1,2),(2,9)] true,3,32,[.int .i64 0,.int .i64 0,.str []],true⟩),
 (291,⟨.array 26 9,26,416,[.str [],.str [],.str [],.str [],.str [],.str [],.str [],.str [],.str [],.str [],.str [],.str [],.str [],.str [],.str [],.str [],.str [],.str [],.str [],.str [],.str [],.str [],.str [],.str [],.str [],.str []],true⟩),
 (302,⟨.array 12 2,12,96,[.int .i64 0,.int .i64 0,.int .i64 0,.int .i64 0,.int .i64 0,.int .i64 0,.int .i64 0,.int .i64 0,.int .i64 0,.int .i64 0,.int .i64 0,.int .i64 0],true⟩)]
theorem G_ok:TyOk Tryz.prog G:=by unfold TyOk;kernel_rfl
theorem gv:tget G 2=some ⟨.int .i64,1,8,[.int .i64 0],true⟩ ∧
 tget G 3=some ⟨.int .i64,1,8,[.int .i64 0],true⟩ ∧
 tget G 4=some ⟨.bool,1,1,[.bool false],true⟩ ∧
 tget G 5=some ⟨.int .u8,1,1,[.int .u8 0],true⟩ ∧
 tget G 9=some ⟨.string,1,16,[.str []],true⟩ ∧
 tget G 21=some ⟨.int .i32,1,4,[.int .i32 0],true⟩ ∧
 tget G 22=some ⟨.slice 5,1,24,[.nils],true⟩ ∧
 tget G 25=some ⟨.struct [(0,2),(1,9),(2,9),(3,9)] true,4,56,[.int .i64 0,.str [],.str [],.str []],true⟩ ∧
 tget G 34=some ⟨.slice 2,1,24,[.nils],true⟩ ∧
 tget G 36=some ⟨.struct [(0,2),(1,34),(2,9),(3,9),(4,2)] true,5,72,[.int .i64 0,.nils,.str [],.str [],.int .i64 0],true⟩ ∧
 tget G 49=some ⟨.struct [(0,2),(1,2)] true,2,16,[.int .i64 0,.int .i64 0],true⟩ ∧
 tget G 50=some ⟨.struct [(0,2),(1,9),(2,9),(3,9)] true,4,56,[.int .i64 0,.str [],.str [],.str []],true⟩ ∧
 tget G 51=some ⟨.struct [(0,2),(1,34),(2,9),(3,9),(4,2)] true,5,72,[.int .i64 0,.nils,.str [],.str [],.int .i64 0],true⟩ ∧
 tget G 52=some ⟨.slice 223,1,24,[.nils],true⟩ ∧
 tget G 54=some ⟨.struct [(0,2),(1,9),(2,49),(4,2),(5,50),(9,51),(14,52),(15,2)] true,16,208,[.int .i64 0,.str [],.int .i64 0,.int .i64 0,.int .i64 0,.int .i64 0,.str [],.str [],.str [],.int .i64 0,.nils,.str [],.str [],.int .i64 0,.nils,.int .i64 0],true⟩ ∧
 tget G 57=some ⟨.struct [(0,2),(1,2)] true,2,16,[.int .i64 0,.int .i64 0],true⟩ ∧
 tget G 58=some ⟨.slice 188,1,24,[.nils],true⟩ ∧
 tget G 60=some ⟨.struct [(0,2),(1,9),(2,57),(4,2),(5,25),(9,36),(14,58),(15,2)] true,16,208,[.int .i64 0,.str [],.int .i64 0,.int .i64 0,.int .i64 0,.int .i64 0,.str [],.str [],.str [],.int .i64 0,.nils,.str [],.str [],.int .i64 0,.nils,.int .i64 0],true⟩ ∧
 tget G 64=some ⟨.slice 54,1,24,[.nils],true⟩ ∧
 tget G 66=some ⟨.slice 153,1,24,[.nils],true⟩ ∧
 tget G 69=some ⟨.slice 60,1,24,[.nils],true⟩ ∧
 tget G 77=some ⟨.struct [(0,2),(1,2),(2,2),(3,2),(4,54)] true,20,240,[.int .i64 0,.int .i64 0,.int .i64 0,.int .i64 0,.int .i64 0,.str [],.int .i64 0,.int .i64 0,.int .i64 0,.int .i64 0,.str [],.str [],.str [],.int .i64 0,.nils,.str [],.str [],.int .i64 0,.nils,.int .i64 0],true⟩ ∧
 tget G 81=some ⟨.struct [(0,2),(1,2),(2,2),(3,2),(4,60)] true,20,240,[.int .i64 0,.int .i64 0,.int .i64 0,.int .i64 0,.int .i64 0,.str [],.int .i64 0,.int .i64 0,.int .i64 0,.int .i64 0,.str [],.str [],.str [],.int .i64 0,.nils,.str [],.str [],.int .i64 0,.nils,.int .i64 0],true⟩ ∧
 tget G 86=some ⟨.struct [(0,2),(1,2),(2,64)] true,3,40,[.int .i64 0,.int .i64 0,.nils],true⟩ ∧
 tget G 91=some ⟨.struct [(0,2),(1,2),(2,69)] true,3,40,[.int .i64 0,.int .i64 0,.nils],true⟩ ∧
 tget G 108=some ⟨.slice 192,1,24,[.nils],true⟩ ∧
 tget G 122=some ⟨.slice 9,1,24,[.nils],true⟩ ∧
 tget G 153=some ⟨.struct [(0,9),(1,9)] true,2,32,[.str [],.str []],true⟩ ∧
 tget G 172=some ⟨.array 7 4,7,7,[.bool false,.bool false,.bool false,.bool false,.bool false,.bool false,.bool false],true⟩ ∧
 tget G 188=some ⟨.struct [(0,2),(1,2),(2,9)] true,3,32,[.int .i64 0,.int .i64 0,.str []],true⟩ ∧
 tget G 192=some ⟨.struct [(0,9),(1,9)] true,2,32,[.str [],.str []],true⟩ ∧
 tget G 223=some ⟨.struct [(0,2),(1,2),(2,9)] true,3,32,[.int .i64 0,.int .i64 0,.str []],true⟩ ∧
 tget G 291=some ⟨.array 26 9,26,416,[.str [],.str [],.str [],.str [],.str [],.str [],.str [],.str [],.str [],.str [],.str [],.str [],.str [],.str [],.str [],.str [],.str [],.str [],.str [],.str [],.str [],.str [],.str [],.str [],.str [],.str []],true⟩ ∧
 tget G 302=some ⟨.array 12 2,12,96,[.int .i64 0,.int .i64 0,.int .i64 0,.int .i64 0,.int .i64 0,.int .i64 0,.int .i64 0,.int .i64 0,.int .i64 0,.int .i64 0,.int .i64 0,.int .i64 0],true⟩:=by
 and_intros<;>rfl
theorem mixed:Tryz.prog.follows .mixedOrders=true:=by kernel_rfl
def yq (v:Int):List AV:=[.int .i64 v]
def ywb : List AV → Int
 | [c]=>rdI c
 | _=>default
def eIu8 (v:Int):List AV:=[.int .u8 v]
def dIu8 : List AV → Int
 | [c]=>rdI c
 | _=>default
def eS (v:(List UInt8)):List AV:=[.str v]
def dS : List AV → (List UInt8)
 | [c]=>rdS c
 | _=>default
structure Point where
 X:Int
 Y:Int
 deriving Inhabited,DecidableEq
def ypc (v:Point):List AV:=[.int .i64 v.X,.int .i64 v.Y]
def yhe : List AV → Point
 | c0::c1::_=>⟨rdI c0,rdI c1⟩
 | _=>default
theorem y0n (v:Point):Point.mk v.X v.Y=v:=rfl
structure Mark where
 Kind:Int
 Colors:(List UInt8)
 Shape:(List UInt8)
 Topmark:(List UInt8)
 deriving Inhabited,DecidableEq
def yrc (v:Mark):List AV:=[.int .i64 v.Kind,.str v.Colors,.str v.Shape,.str v.Topmark]
def yrd : List AV → Mark
 | c0::c1::c2::c3::_=>⟨rdI c0,rdS c1,rdS c2,rdS c3⟩
 | _=>default
theorem yct (v:Mark):Mark.mk v.Kind v.Colors v.Shape v.Topmark=v:=rfl
structure Character where
 Kind:Int
 Group:(List Int)
 Letter:(List UInt8)
 Colors:(List UInt8)
 Period:Int
 deriving Inhabited,DecidableEq
def yf (v:Character):List AV:=[.int .i64 v.Kind,encL 1 yq v.Group,.str v.Letter,.str v.Colors,.int .i64 v.Period]
def y8 (v:Character):List AV:=[.int .i64 v.Kind,ownL 2 1 yq v.Group,.str v.Letter,.str v.Colors,.int .i64 v.Period]
def yc : List AV → Character
 | c0::c1::c2::c3::c4::_=>⟨rdI c0,rdL ywb c1,rdS c2,rdS c3,rdI c4⟩
 | _=>default
theorem yjg (v:Character):Character.mk v.Kind v.Group v.Letter v.Colors v.Period=v:=rfl
structure Sector where
 From:Int
 To:Int
 Color:(List UInt8)
 deriving Inhabited,DecidableEq
def yj (v:Sector):List AV:=[.int .i64 v.From,.int .i64 v.To,.str v.Color]
def yp : List AV → Sector
 | c0::c1::c2::_=>⟨rdI c0,rdI c1,rdS c2⟩
 | _=>default
theorem yfl (v:Sector):Sector.mk v.From v.To v.Color=v:=rfl
structure Aid where
 Number:Int
 Name:(List UInt8)
 At:Point
 Height:Int
 Mark:Mark
 Light:Character
 Sectors:(List Sector)
 Intensity:Int
 deriving Inhabited,DecidableEq
def eAid (v:Aid):List AV:=[.int .i64 v.Number,.str v.Name,.int .i64 v.At.X,.int .i64 v.At.Y,.int .i64 v.Height,.int .i64 v.Mark.Kind,.str v.Mark.Colors,.str v.Mark.Shape,.str v.Mark.Topmark,.int .i64 v.Light.Kind,encL 1 yq v.Light.Group,.str v.Light.Letter,.str v.Light.Colors,.int .i64 v.Light.Period,encL 3 yj v.Sectors,.int .i64 v.Intensity]
def yci (v:Aid):List AV:=[.int .i64 v.Number,.str v.Name,.int .i64 v.At.X,.int .i64 v.At.Y,.int .i64 v.Height,.int .i64 v.Mark.Kind,.str v.Mark.Colors,.str v.Mark.Shape,.str v.Mark.Topmark,.int .i64 v.Light.Kind,ownL 2 1 yq v.Light.Group,.str v.Light.Letter,.str v.Light.Colors,.int .i64 v.Light.Period,ownL 188 3 yj v.Sectors,.int .i64 v.Intensity]
def dAid : List AV → Aid
 | c0::c1::c2::c3::c4::c5::c6::c7::c8::c9::c10::c11::c12::c13::c14::c15::_=>⟨rdI c0,rdS c1,⟨rdI c2,rdI c3⟩,rdI c4,⟨rdI c5,rdS c6,rdS c7,rdS c8⟩,⟨rdI c9,rdL ywb c10,rdS c11,rdS c12,rdI c13⟩,rdL yp c14,rdI c15⟩
 | _=>default
theorem y5v (v:Aid):Aid.mk v.Number v.Name v.At v.Height v.Mark v.Light v.Sectors v.Intensity=v:=rfl
structure Item where
 Key:(List UInt8)
 Text:(List UInt8)
 deriving Inhabited,DecidableEq
def ys4 (v:Item):List AV:=[.str v.Key,.str v.Text]
def ylw : List AV → Item
 | c0::c1::_=>⟨rdS c0,rdS c1⟩
 | _=>default
theorem yds (v:Item):Item.mk v.Key v.Text=v:=rfl
structure Notice where
 Number:Int
 Day:Int
 Kind:Int
 Target:Int
 Aid:Aid
 deriving Inhabited,DecidableEq
def yxv (v:Notice):List AV:=[.int .i64 v.Number,.int .i64 v.Day,.int .i64 v.Kind,.int .i64 v.Target,.int .i64 v.Aid.Number,.str v.Aid.Name,.int .i64 v.Aid.At.X,.int .i64 v.Aid.At.Y,.int .i64 v.Aid.Height,.int .i64 v.Aid.Mark.Kind,.str v.Aid.Mark.Colors,.str v.Aid.Mark.Shape,.str v.Aid.Mark.Topmark,.int .i64 v.Aid.Light.Kind,encL 1 yq v.Aid.Light.Group,.str v.Aid.Light.Letter,.str v.Aid.Light.Colors,.int .i64 v.Aid.Light.Period,encL 3 yj v.Aid.Sectors,.int .i64 v.Aid.Intensity]
def yts (v:Notice):List AV:=[.int .i64 v.Number,.int .i64 v.Day,.int .i64 v.Kind,.int .i64 v.Target,.int .i64 v.Aid.Number,.str v.Aid.Name,.int .i64 v.Aid.At.X,.int .i64 v.Aid.At.Y,.int .i64 v.Aid.Height,.int .i64 v.Aid.Mark.Kind,.str v.Aid.Mark.Colors,.str v.Aid.Mark.Shape,.str v.Aid.Mark.Topmark,.int .i64 v.Aid.Light.Kind,ownL 2 1 yq v.Aid.Light.Group,.str v.Aid.Light.Letter,.str v.Aid.Light.Colors,.int .i64 v.Aid.Light.Period,ownL 188 3 yj v.Aid.Sectors,.int .i64 v.Aid.Intensity]
def yrv : List AV → Notice
 | c0::c1::c2::c3::c4::c5::c6::c7::c8::c9::c10::c11::c12::c13::c14::c15::c16::c17::c18::c19::_=>⟨rdI c0,rdI c1,rdI c2,rdI c3,⟨rdI c4,rdS c5,⟨rdI c6,rdI c7⟩,rdI c8,⟨rdI c9,rdS c10,rdS c11,rdS c12⟩,⟨rdI c13,rdL ywb c14,rdS c15,rdS c16,rdI c17⟩,rdL yp c18,rdI c19⟩⟩
 | _=>default
theorem y0k (v:Notice):Notice.mk v.Number v.Day v.Kind v.Target v.Aid=v:=rfl
structure Edition where
 Number:Int
 Day:Int
 Aids:(List Aid)
 deriving Inhabited,DecidableEq
def yrr (v:Edition):List AV:=[.int .i64 v.Number,.int .i64 v.Day,encL 16 eAid v.Aids]
def y9o (v:Edition):List AV:=[.int .i64 v.Number,.int .i64 v.Day,ownL 60 16 yci v.Aids]
def yjt : List AV → Edition
 | c0::c1::c2::_=>⟨rdI c0,rdI c1,rdL dAid c2⟩
 | _=>default
theorem y8i (v:Edition):Edition.mk v.Number v.Day v.Aids=v:=rfl
theorem yig (l:List Int):decL ywb l.length (fun i=>[.int .i64 (l.getD i default)])=l:=y8b l
theorem yqn (l:List Int) (lo n:Nat):decL ywb n (fun i=>[.int .i64 (l.getD (lo+i) default)])=subL l lo n:=rfl
theorem yko (l:List Int) (n:Nat):decL ywb n (fun i=>[.int .i64 (l.getD i default)])=subL l 0 n:=by simp only[subL,Nat.zero_add];rfl
theorem ygg (l:List Item):decL ylw l.length (fun i=>[.str ((l.getD i default).Key),.str ((l.getD i default).Text)])=l:=y8b l
theorem yqo (l:List Item) (lo n:Nat):decL ylw n (fun i=>[.str ((l.getD (lo+i) default).Key),.str ((l.getD (lo+i) default).Text)])=subL l lo n:=rfl
theorem yan (l:List Item) (n:Nat):decL ylw n (fun i=>[.str ((l.getD i default).Key),.str ((l.getD i default).Text)])=subL l 0 n:=by simp only[subL,Nat.zero_add];rfl
theorem yoi (l:List Int):decL dIu8 l.length (fun i=>[.int .u8 (l.getD i default)])=l:=y8b l
theorem yxs (l:List Int) (lo n:Nat):decL dIu8 n (fun i=>[.int .u8 (l.getD (lo+i) default)])=subL l lo n:=rfl
theorem y9r (l:List Int) (n:Nat):decL dIu8 n (fun i=>[.int .u8 (l.getD i default)])=subL l 0 n:=by simp only[subL,Nat.zero_add];rfl
theorem ydt (l:List (List UInt8)):decL dS l.length (fun i=>[.str (l.getD i default)])=l:=y8b l
theorem y41 (l:List (List UInt8)) (lo n:Nat):decL dS n (fun i=>[.str (l.getD (lo+i) default)])=subL l lo n:=rfl
theorem yv1 (l:List (List UInt8)) (n:Nat):decL dS n (fun i=>[.str (l.getD i default)])=subL l 0 n:=by simp only[subL,Nat.zero_add];rfl
theorem yce (l:List Sector):decL yp l.length (fun i=>[.int .i64 ((l.getD i default).From),.int .i64 ((l.getD i default).To),.str ((l.getD i default).Color)])=l:=y8b l
theorem ytj (l:List Sector) (lo n:Nat):decL yp n (fun i=>[.int .i64 ((l.getD (lo+i) default).From),.int .i64 ((l.getD (lo+i) default).To),.str ((l.getD (lo+i) default).Color)])=subL l lo n:=rfl
theorem y2i (l:List Sector) (n:Nat):decL yp n (fun i=>[.int .i64 ((l.getD i default).From),.int .i64 ((l.getD i default).To),.str ((l.getD i default).Color)])=subL l 0 n:=by simp only[subL,Nat.zero_add];rfl
theorem ysq (v:Aid):dAid [.int .i64 v.Number,.str v.Name,.int .i64 v.At.X,.int .i64 v.At.Y,.int .i64 v.Height,.int .i64 v.Mark.Kind,.str v.Mark.Colors,.str v.Mark.Shape,.str v.Mark.Topmark,.int .i64 v.Light.Kind,.sl none 1 v.Light.Group.length (fun j=>[.int .i64 (v.Light.Group.getD j default)]),.str v.Light.Letter,.str v.Light.Colors,.int .i64 v.Light.Period,.sl none 3 v.Sectors.length (fun j=>[.int .i64 ((v.Sectors.getD j default).From),.int .i64 ((v.Sectors.getD j default).To),.str ((v.Sectors.getD j default).Color)]),.int .i64 v.Intensity]=v:=by simp only[dAid,rdI,rdB,rdS,rdL,yig,ygg,yoi,ydt,yce]
theorem yhm (l:List Aid):decL dAid l.length (fun i=>[.int .i64 ((l.getD i default).Number),.str ((l.getD i default).Name),.int .i64 (((l.getD i default).At).X),.int .i64 (((l.getD i default).At).Y),.int .i64 ((l.getD i default).Height),.int .i64 (((l.getD i default).Mark).Kind),.str (((l.getD i default).Mark).Colors),.str (((l.getD i default).Mark).Shape),.str (((l.getD i default).Mark).Topmark),.int .i64 (((l.getD i default).Light).Kind),.sl none 1 (((l.getD i default).Light).Group).length (fun j=>[.int .i64 ((((l.getD i default).Light).Group).getD j default)]),.str (((l.getD i default).Light).Letter),.str (((l.getD i default).Light).Colors),.int .i64 (((l.getD i default).Light).Period),.sl none 3 ((l.getD i default).Sectors).length (fun j=>[.int .i64 ((((l.getD i default).Sectors).getD j default).From),.int .i64 ((((l.getD i default).Sectors).getD j default).To),.str ((((l.getD i default).Sectors).getD j default).Color)]),.int .i64 ((l.getD i default).Intensity)])=l:=(List.map_congr_left fun i _=>ysq (l.getD i default)).trans (y8b l)
theorem yht (l:List Aid) (lo n:Nat):decL dAid n (fun i=>[.int .i64 ((l.getD (lo+i) default).Number),.str ((l.getD (lo+i) default).Name),.int .i64 (((l.getD (lo+i) default).At).X),.int .i64 (((l.getD (lo+i) default).At).Y),.int .i64 ((l.getD (lo+i) default).Height),.int .i64 (((l.getD (lo+i) default).Mark).Kind),.str (((l.getD (lo+i) default).Mark).Colors),.str (((l.getD (lo+i) default).Mark).Shape),.str (((l.getD (lo+i) default).Mark).Topmark),.int .i64 (((l.getD (lo+i) default).Light).Kind),.sl none 1 (((l.getD (lo+i) default).Light).Group).length (fun j=>[.int .i64 ((((l.getD (lo+i) default).Light).Group).getD j default)]),.str (((l.getD (lo+i) default).Light).Letter),.str (((l.getD (lo+i) default).Light).Colors),.int .i64 (((l.getD (lo+i) default).Light).Period),.sl none 3 ((l.getD (lo+i) default).Sectors).length (fun j=>[.int .i64 ((((l.getD (lo+i) default).Sectors).getD j default).From),.int .i64 ((((l.getD (lo+i) default).Sectors).getD j default).To),.str ((((l.getD (lo+i) default).Sectors).getD j default).Color)]),.int .i64 ((l.getD (lo+i) default).Intensity)])=subL l lo n:=List.map_congr_left fun i _=>ysq (l.getD (lo+i) default)
theorem ynt (l:List Aid) (n:Nat):decL dAid n (fun i=>[.int .i64 ((l.getD i default).Number),.str ((l.getD i default).Name),.int .i64 (((l.getD i default).At).X),.int .i64 (((l.getD i default).At).Y),.int .i64 ((l.getD i default).Height),.int .i64 (((l.getD i default).Mark).Kind),.str (((l.getD i default).Mark).Colors),.str (((l.getD i default).Mark).Shape),.str (((l.getD i default).Mark).Topmark),.int .i64 (((l.getD i default).Light).Kind),.sl none 1 (((l.getD i default).Light).Group).length (fun j=>[.int .i64 ((((l.getD i default).Light).Group).getD j default)]),.str (((l.getD i default).Light).Letter),.str (((l.getD i default).Light).Colors),.int .i64 (((l.getD i default).Light).Period),.sl none 3 ((l.getD i default).Sectors).length (fun j=>[.int .i64 ((((l.getD i default).Sectors).getD j default).From),.int .i64 ((((l.getD i default).Sectors).getD j default).To),.str ((((l.getD i default).Sectors).getD j default).Color)]),.int .i64 ((l.getD i default).Intensity)])=subL l 0 n:=by simp only[subL,Nat.zero_add];exact List.map_congr_left fun i _=>ysq (l.getD i default)
theorem y6l (v:Aid):dAid [.int .i64 v.Number,.str v.Name,.int .i64 v.At.X,.int .i64 v.At.Y,.int .i64 v.Height,.int .i64 v.Mark.Kind,.str v.Mark.Colors,.str v.Mark.Shape,.str v.Mark.Topmark,.int .i64 v.Light.Kind,.sl (some 2) 1 v.Light.Group.length (fun j=>[.int .i64 (v.Light.Group.getD j default)]),.str v.Light.Letter,.str v.Light.Colors,.int .i64 v.Light.Period,.sl (some 188) 3 v.Sectors.length (fun j=>[.int .i64 ((v.Sectors.getD j default).From),.int .i64 ((v.Sectors.getD j default).To),.str ((v.Sectors.getD j default).Color)]),.int .i64 v.Intensity]=v:=by simp only[dAid,rdI,rdB,rdS,rdL,yig,ygg,yoi,ydt,yce,yhm]
theorem yyn (l:List Aid):decL dAid l.length (fun i=>[.int .i64 ((l.getD i default).Number),.str ((l.getD i default).Name),.int .i64 (((l.getD i default).At).X),.int .i64 (((l.getD i default).At).Y),.int .i64 ((l.getD i default).Height),.int .i64 (((l.getD i default).Mark).Kind),.str (((l.getD i default).Mark).Colors),.str (((l.getD i default).Mark).Shape),.str (((l.getD i default).Mark).Topmark),.int .i64 (((l.getD i default).Light).Kind),.sl (some 2) 1 (((l.getD i default).Light).Group).length (fun j=>[.int .i64 ((((l.getD i default).Light).Group).getD j default)]),.str (((l.getD i default).Light).Letter),.str (((l.getD i default).Light).Colors),.int .i64 (((l.getD i default).Light).Period),.sl (some 188) 3 ((l.getD i default).Sectors).length (fun j=>[.int .i64 ((((l.getD i default).Sectors).getD j default).From),.int .i64 ((((l.getD i default).Sectors).getD j default).To),.str ((((l.getD i default).Sectors).getD j default).Color)]),.int .i64 ((l.getD i default).Intensity)])=l:=(List.map_congr_left fun i _=>y6l (l.getD i default)).trans (y8b l)
theorem y0m (l:List Aid) (lo n:Nat):decL dAid n (fun i=>[.int .i64 ((l.getD (lo+i) default).Number),.str ((l.getD (lo+i) default).Name),.int .i64 (((l.getD (lo+i) default).At).X),.int .i64 (((l.getD (lo+i) default).At).Y),.int .i64 ((l.getD (lo+i) default).Height),.int .i64 (((l.getD (lo+i) default).Mark).Kind),.str (((l.getD (lo+i) default).Mark).Colors),.str (((l.getD (lo+i) default).Mark).Shape),.str (((l.getD (lo+i) default).Mark).Topmark),.int .i64 (((l.getD (lo+i) default).Light).Kind),.sl (some 2) 1 (((l.getD (lo+i) default).Light).Group).length (fun j=>[.int .i64 ((((l.getD (lo+i) default).Light).Group).getD j default)]),.str (((l.getD (lo+i) default).Light).Letter),.str (((l.getD (lo+i) default).Light).Colors),.int .i64 (((l.getD (lo+i) default).Light).Period),.sl (some 188) 3 ((l.getD (lo+i) default).Sectors).length (fun j=>[.int .i64 ((((l.getD (lo+i) default).Sectors).getD j default).From),.int .i64 ((((l.getD (lo+i) default).Sectors).getD j default).To),.str ((((l.getD (lo+i) default).Sectors).getD j default).Color)]),.int .i64 ((l.getD (lo+i) default).Intensity)])=subL l lo n:=List.map_congr_left fun i _=>y6l (l.getD (lo+i) default)
theorem yup (l:List Aid) (n:Nat):decL dAid n (fun i=>[.int .i64 ((l.getD i default).Number),.str ((l.getD i default).Name),.int .i64 (((l.getD i default).At).X),.int .i64 (((l.getD i default).At).Y),.int .i64 ((l.getD i default).Height),.int .i64 (((l.getD i default).Mark).Kind),.str (((l.getD i default).Mark).Colors),.str (((l.getD i default).Mark).Shape),.str (((l.getD i default).Mark).Topmark),.int .i64 (((l.getD i default).Light).Kind),.sl (some 2) 1 (((l.getD i default).Light).Group).length (fun j=>[.int .i64 ((((l.getD i default).Light).Group).getD j default)]),.str (((l.getD i default).Light).Letter),.str (((l.getD i default).Light).Colors),.int .i64 (((l.getD i default).Light).Period),.sl (some 188) 3 ((l.getD i default).Sectors).length (fun j=>[.int .i64 ((((l.getD i default).Sectors).getD j default).From),.int .i64 ((((l.getD i default).Sectors).getD j default).To),.str ((((l.getD i default).Sectors).getD j default).Color)]),.int .i64 ((l.getD i default).Intensity)])=subL l 0 n:=by simp only[subL,Nat.zero_add];exact List.map_congr_left fun i _=>y6l (l.getD i default)
def bdS (v:List UInt8):Prop:=v.length<1099511627776
instance:DecidablePred bdS:=fun v=>inferInstanceAs (Decidable (v.length<1099511627776))
def bdMark (v:Mark):Prop:=bdS v.Colors∧bdS v.Shape∧bdS v.Topmark
instance:DecidablePred bdMark:=fun v=>by unfold bdMark;infer_instance
def bdLIi64 (v:(List Int)):Prop:=v.length<1099511627776
instance:DecidablePred bdLIi64:=fun v=>by unfold bdLIi64;infer_instance
def bdCharacter (v:Character):Prop:=bdLIi64 v.Group∧bdS v.Letter∧bdS v.Colors
instance:DecidablePred bdCharacter:=fun v=>by unfold bdCharacter;infer_instance
def bdSector (v:Sector):Prop:=bdS v.Color
instance:DecidablePred bdSector:=fun v=>by unfold bdSector;infer_instance
def bdLSector (v:(List Sector)):Prop:=v.length<1099511627776∧∀ x∈v,bdSector x
instance:DecidablePred bdLSector:=fun v=>by unfold bdLSector;infer_instance
def bdAid (v:Aid):Prop:=bdS v.Name∧bdMark v.Mark∧bdCharacter v.Light∧bdLSector v.Sectors
instance:DecidablePred bdAid:=fun v=>by unfold bdAid;infer_instance
def bdItem (v:Item):Prop:=bdS v.Key∧bdS v.Text
instance:DecidablePred bdItem:=fun v=>by unfold bdItem;infer_instance
def bdNotice (v:Notice):Prop:=bdAid v.Aid
instance:DecidablePred bdNotice:=fun v=>by unfold bdNotice;infer_instance
def bdLAid (v:(List Aid)):Prop:=v.length<1099511627776∧∀ x∈v,bdAid x
instance:DecidablePred bdLAid:=fun v=>by unfold bdLAid;infer_instance
def bdEdition (v:Edition):Prop:=bdLAid v.Aids
instance:DecidablePred bdEdition:=fun v=>by unfold bdEdition;infer_instance
def bwS (v:List UInt8):Prop:=v.length<9223372036854775808
instance:DecidablePred bwS:=fun v=>inferInstanceAs (Decidable (v.length<9223372036854775808))
def bwMark (v:Mark):Prop:=bwS v.Colors∧bwS v.Shape∧bwS v.Topmark
instance:DecidablePred bwMark:=fun v=>by unfold bwMark;infer_instance
def bwLIi64 (v:(List Int)):Prop:=v.length<9223372036854775808
instance:DecidablePred bwLIi64:=fun v=>by unfold bwLIi64;infer_instance
def bwCharacter (v:Character):Prop:=bwLIi64 v.Group∧bwS v.Letter∧bwS v.Colors
instance:DecidablePred bwCharacter:=fun v=>by unfold bwCharacter;infer_instance
def bwSector (v:Sector):Prop:=bwS v.Color
instance:DecidablePred bwSector:=fun v=>by unfold bwSector;infer_instance
def bwLSector (v:(List Sector)):Prop:=v.length<9223372036854775808∧∀ x∈v,bwSector x
instance:DecidablePred bwLSector:=fun v=>by unfold bwLSector;infer_instance
def bwAid (v:Aid):Prop:=bwS v.Name∧bwMark v.Mark∧bwCharacter v.Light∧bwLSector v.Sectors
instance:DecidablePred bwAid:=fun v=>by unfold bwAid;infer_instance
def bwItem (v:Item):Prop:=bwS v.Key∧bwS v.Text
instance:DecidablePred bwItem:=fun v=>by unfold bwItem;infer_instance
def bwNotice (v:Notice):Prop:=bwAid v.Aid
instance:DecidablePred bwNotice:=fun v=>by unfold bwNotice;infer_instance
def bwLAid (v:(List Aid)):Prop:=v.length<9223372036854775808∧∀ x∈v,bwAid x
instance:DecidablePred bwLAid:=fun v=>by unfold bwLAid;infer_instance
def bwEdition (v:Edition):Prop:=bwLAid v.Aids
instance:DecidablePred bwEdition:=fun v=>by unfold bwEdition;infer_instance
theorem y0v (v:List UInt8) (h:y6c [.str v]):bwS v:=Nat.lt_succ_of_le h.1
theorem y0c (v:Mark) (h:y6c (yrc v)):bwMark v:=⟨Nat.lt_succ_of_le h.2.1,Nat.lt_succ_of_le h.2.2.1,Nat.lt_succ_of_le h.2.2.2.1⟩
theorem yn (v:Character) (h:y6c (yf v)):bwCharacter v:=⟨Nat.lt_succ_of_le (ym h.2.1).1,Nat.lt_succ_of_le h.2.2.1,Nat.lt_succ_of_le h.2.2.2.1⟩
theorem yxj (v:Character) (h:y6c (y8 v)):bwCharacter v:=⟨Nat.lt_succ_of_le (y2c h.2.1).1,Nat.lt_succ_of_le h.2.2.1,Nat.lt_succ_of_le h.2.2.2.1⟩
theorem yt (v:Sector) (h:y6c (yj v)):bwSector v:=Nat.lt_succ_of_le h.2.2.1
theorem y7c (v:Aid) (h:y6c (eAid v)):bwAid v:=⟨Nat.lt_succ_of_le h.2.1,⟨Nat.lt_succ_of_le h.2.2.2.2.2.2.1,Nat.lt_succ_of_le h.2.2.2.2.2.2.2.1,Nat.lt_succ_of_le h.2.2.2.2.2.2.2.2.1⟩,⟨Nat.lt_succ_of_le (ym h.2.2.2.2.2.2.2.2.2.2.1).1,Nat.lt_succ_of_le h.2.2.2.2.2.2.2.2.2.2.2.1,Nat.lt_succ_of_le h.2.2.2.2.2.2.2.2.2.2.2.2.1⟩,⟨Nat.lt_succ_of_le (ym h.2.2.2.2.2.2.2.2.2.2.2.2.2.2.1).1,fun y hy=>yt y ((ym h.2.2.2.2.2.2.2.2.2.2.2.2.2.2.1).2 y hy)⟩⟩
theorem ycx (v:Aid) (h:y6c (yci v)):bwAid v:=⟨Nat.lt_succ_of_le h.2.1,⟨Nat.lt_succ_of_le h.2.2.2.2.2.2.1,Nat.lt_succ_of_le h.2.2.2.2.2.2.2.1,Nat.lt_succ_of_le h.2.2.2.2.2.2.2.2.1⟩,⟨Nat.lt_succ_of_le (y2c h.2.2.2.2.2.2.2.2.2.2.1).1,Nat.lt_succ_of_le h.2.2.2.2.2.2.2.2.2.2.2.1,Nat.lt_succ_of_le h.2.2.2.2.2.2.2.2.2.2.2.2.1⟩,⟨Nat.lt_succ_of_le (y2c h.2.2.2.2.2.2.2.2.2.2.2.2.2.2.1).1,fun y hy=>yt y ((y2c h.2.2.2.2.2.2.2.2.2.2.2.2.2.2.1).2 y hy)⟩⟩
theorem fl5 (p:Nat→Prop):(∀ i,i<5→p i)=(p 0∧p 1∧p 2∧p 3∧p 4):=by
 apply propext
 refine⟨fun h=>⟨h 0 (by omega),h 1 (by omega),h 2 (by omega),h 3 (by omega),h 4 (by omega)⟩,fun h i hi => ?_⟩
 obtain⟨h0,h1,h2,h3,h4⟩:=h
 have hc:i=0∨i=1∨i=2∨i=3∨i=4:=by omega
 rcases hc with rfl|rfl|rfl|rfl|rfl<;>assumption
theorem yp1 {α:Type} (d:List AV→α) (f:Nat→List AV):decL d 5 f=[d (f 0),d (f 1),d (f 2),d (f 3),d (f 4)]:=rfl
theorem fl6 (p:Nat→Prop):(∀ i,i<6→p i)=(p 0∧p 1∧p 2∧p 3∧p 4∧p 5):=by
 apply propext
 refine⟨fun h=>⟨h 0 (by omega),h 1 (by omega),h 2 (by omega),h 3 (by omega),h 4 (by omega),h 5 (by omega)⟩,fun h i hi => ?_⟩
 obtain⟨h0,h1,h2,h3,h4,h5⟩:=h
 have hc:i=0∨i=1∨i=2∨i=3∨i=4∨i=5:=by omega
 rcases hc with rfl|rfl|rfl|rfl|rfl|rfl<;>assumption
theorem yo1 {α:Type} (d:List AV→α) (f:Nat→List AV):decL d 6 f=[d (f 0),d (f 1),d (f 2),d (f 3),d (f 4),d (f 5)]:=rfl
theorem fl7 (p:Nat→Prop):(∀ i,i<7→p i)=(p 0∧p 1∧p 2∧p 3∧p 4∧p 5∧p 6):=by
 apply propext
 refine⟨fun h=>⟨h 0 (by omega),h 1 (by omega),h 2 (by omega),h 3 (by omega),h 4 (by omega),h 5 (by omega),h 6 (by omega)⟩,fun h i hi => ?_⟩
 obtain⟨h0,h1,h2,h3,h4,h5,h6⟩:=h
 have hc:i=0∨i=1∨i=2∨i=3∨i=4∨i=5∨i=6:=by omega
 rcases hc with rfl|rfl|rfl|rfl|rfl|rfl|rfl<;>assumption
theorem yh1 {α:Type} (d:List AV→α) (f:Nat→List AV):decL d 7 f=[d (f 0),d (f 1),d (f 2),d (f 3),d (f 4),d (f 5),d (f 6)]:=rfl
theorem fl8 (p:Nat→Prop):(∀ i,i<8→p i)=(p 0∧p 1∧p 2∧p 3∧p 4∧p 5∧p 6∧p 7):=by
 apply propext
 refine⟨fun h=>⟨h 0 (by omega),h 1 (by omega),h 2 (by omega),h 3 (by omega),h 4 (by omega),h 5 (by omega),h 6 (by omega),h 7 (by omega)⟩,fun h i hi => ?_⟩
 obtain⟨h0,h1,h2,h3,h4,h5,h6,h7⟩:=h
 have hc:i=0∨i=1∨i=2∨i=3∨i=4∨i=5∨i=6∨i=7:=by omega
 rcases hc with rfl|rfl|rfl|rfl|rfl|rfl|rfl|rfl<;>assumption
theorem yw1 {α:Type} (d:List AV→α) (f:Nat→List AV):decL d 8 f=[d (f 0),d (f 1),d (f 2),d (f 3),d (f 4),d (f 5),d (f 6),d (f 7)]:=rfl
theorem yi4 {α:Type} [Inhabited α] (x0 x1:α):subL [x0,x1] 0 2=[x0,x1]:=rfl
theorem yz3 {α:Type} [Inhabited α] (x0 x1 x2:α):subL [x0,x1,x2] 0 3=[x0,x1,x2]:=rfl
theorem yl4 {α:Type} [Inhabited α] (x0 x1 x2 x3:α):subL [x0,x1,x2,x3] 0 4=[x0,x1,x2,x3]:=rfl
theorem y83 {α:Type} [Inhabited α] (x0 x1 x2 x3 x4:α):subL [x0,x1,x2,x3,x4] 0 5=[x0,x1,x2,x3,x4]:=rfl
theorem y23 {α:Type} [Inhabited α] (x0 x1 x2 x3 x4 x5:α):subL [x0,x1,x2,x3,x4,x5] 0 6=[x0,x1,x2,x3,x4,x5]:=rfl
theorem ym4 {α:Type} [Inhabited α] (x0 x1 x2 x3 x4 x5 x6:α):subL [x0,x1,x2,x3,x4,x5,x6] 0 7=[x0,x1,x2,x3,x4,x5,x6]:=rfl
theorem yq4 {α:Type} [Inhabited α] (x0 x1 x2 x3 x4 x5 x6 x7:α):subL [x0,x1,x2,x3,x4,x5,x6,x7] 0 8=[x0,x1,x2,x3,x4,x5,x6,x7]:=rfl
theorem y54 {α:Type} [Inhabited α] (x0 x1 x2 x3 x4 x5 x6 x7 x8:α):subL [x0,x1,x2,x3,x4,x5,x6,x7,x8] 0 9=[x0,x1,x2,x3,x4,x5,x6,x7,x8]:=rfl
theorem yg1 {α:Type} [Inhabited α] (x0 x1 x2 x3 x4 x5 x6 x7 x8 x9:α):subL [x0,x1,x2,x3,x4,x5,x6,x7,x8,x9] 0 10=[x0,x1,x2,x3,x4,x5,x6,x7,x8,x9]:=rfl
theorem yc1 {α:Type} [Inhabited α] (x0 x1 x2 x3 x4 x5 x6 x7 x8 x9 x10:α):subL [x0,x1,x2,x3,x4,x5,x6,x7,x8,x9,x10] 0 11=[x0,x1,x2,x3,x4,x5,x6,x7,x8,x9,x10]:=rfl
theorem y31 {α:Type} [Inhabited α] (x0 x1 x2 x3 x4 x5 x6 x7 x8 x9 x10 x11:α):subL [x0,x1,x2,x3,x4,x5,x6,x7,x8,x9,x10,x11] 0 12=[x0,x1,x2,x3,x4,x5,x6,x7,x8,x9,x10,x11]:=rfl
theorem yr1 {α:Type} [Inhabited α] (x0 x1 x2 x3 x4 x5 x6 x7 x8 x9 x10 x11 x12:α):subL [x0,x1,x2,x3,x4,x5,x6,x7,x8,x9,x10,x11,x12] 0 13=[x0,x1,x2,x3,x4,x5,x6,x7,x8,x9,x10,x11,x12]:=rfl
theorem yf1 {α:Type} [Inhabited α] (x0 x1 x2 x3 x4 x5 x6 x7 x8 x9 x10 x11 x12 x13:α):subL [x0,x1,x2,x3,x4,x5,x6,x7,x8,x9,x10,x11,x12,x13] 0 14=[x0,x1,x2,x3,x4,x5,x6,x7,x8,x9,x10,x11,x12,x13]:=rfl
theorem sv:type_of% (
 And.intro @wGO.eq_def <|
 And.intro @wQ.eq_def <|
 And.intro @rdQ.eq_def <|
 And.intro @ybe <|
 And.intro @fl1 <|
 And.intro @fl2 <|
 And.intro @fl3 <|
 And.intro @fl4 <|
 And.intro @yn1 <|
 And.intro @yz1 <|
 And.intro @ym1 <|
 And.intro @y51 <|
 And.intro @yq1 <|
 And.intro @fl5 <|
 And.intro @fl6 <|
 And.intro @fl7 <|
 And.intro @fl8 <|
 And.intro @yp1 <|
 And.intro @yo1 <|
 And.intro @yh1 <|
 And.intro @yw1 <|
 And.intro @yi4 <|
 And.intro @yz3 <|
 And.intro @yl4 <|
 And.intro @y83 <|
 And.intro @y23 <|
 And.intro @ym4 <|
 And.intro @yq4 <|
 And.intro @y54 <|
 And.intro @yg1 <|
 And.intro @yc1 <|
 And.intro @y31 <|
 And.intro @yr1 <|
 And.intro @yf1 <|
 And.intro @eAid.eq_1 <|
 And.intro @dAid.eq_1 <|
 And.intro @y5v <|
 And.intro @yci.eq_1 <|
 And.intro @ypc.eq_1 <|
 And.intro @yhe.eq_1 <|
 And.intro @y0n <|
 And.intro @yrc.eq_1 <|
 And.intro @yrd.eq_1 <|
 And.intro @yct <|
 And.intro @yf.eq_1 <|
 And.intro @yc.eq_1 <|
 And.intro @yjg <|
 And.intro @y8.eq_1 <|
 And.intro @yj.eq_1 <|
 And.intro @yp.eq_1 <|
 And.intro @yfl <|
 And.intro @ys4.eq_1 <|
 And.intro @ylw.eq_1 <|
 And.intro @yds <|
 And.intro @yxv.eq_1 <|
 And.intro @yrv.eq_1 <|
 And.intro @y0k <|
 And.intro @yts.eq_1 <|
 And.intro @yrr.eq_1 <|
 And.intro @yjt.eq_1 <|
 And.intro @y8i <|
 And.intro @y9o.eq_1 <|
 And.intro @yq.eq_1 <|
 And.intro @ywb.eq_1 <|
 And.intro @yig <|
 And.intro @yqn <|
 And.intro @yko <|
 And.intro @ygg <|
 And.intro @yqo <|
 And.intro @yan <|
 And.intro @eIu8.eq_1 <|
 And.intro @dIu8.eq_1 <|
 And.intro @yoi <|
 And.intro @yxs <|
 And.intro @y9r <|
 And.intro @eS.eq_1 <|
 And.intro @dS.eq_1 <|
 And.intro @ydt <|
 And.intro @y41 <|
 And.intro @yv1 <|
 And.intro @yce <|
 And.intro @ytj <|
 And.intro @y2i <|
 And.intro @yhm <|
 And.intro @yht <|
 And.intro @ynt <|
 And.intro @yyn <|
 And.intro @y0m <| @yup):=
 And.intro @wGO.eq_def <|
 And.intro @wQ.eq_def <|
 And.intro @rdQ.eq_def <|
 And.intro @ybe <|
 And.intro @fl1 <|
 And.intro @fl2 <|
 And.intro @fl3 <|
 And.intro @fl4 <|
 And.intro @yn1 <|
 And.intro @yz1 <|
 And.intro @ym1 <|
 And.intro @y51 <|
 And.intro @yq1 <|
 And.intro @fl5 <|
 And.intro @fl6 <|
 And.intro @fl7 <|
 And.intro @fl8 <|
 And.intro @yp1 <|
 And.intro @yo1 <|
 And.intro @yh1 <|
 And.intro @yw1 <|
 And.intro @yi4 <|
 And.intro @yz3 <|
 And.intro @yl4 <|
 And.intro @y83 <|
 And.intro @y23 <|
 And.intro @ym4 <|
 And.intro @yq4 <|
 And.intro @y54 <|
 And.intro @yg1 <|
 And.intro @yc1 <|
 And.intro @y31 <|
 And.intro @yr1 <|
 And.intro @yf1 <|
 And.intro @eAid.eq_1 <|
 And.intro @dAid.eq_1 <|
 And.intro @y5v <|
 And.intro @yci.eq_1 <|
 And.intro @ypc.eq_1 <|
 And.intro @yhe.eq_1 <|
 And.intro @y0n <|
 And.intro @yrc.eq_1 <|
 And.intro @yrd.eq_1 <|
 And.intro @yct <|
 And.intro @yf.eq_1 <|
 And.intro @yc.eq_1 <|
 And.intro @yjg <|
 And.intro @y8.eq_1 <|
 And.intro @yj.eq_1 <|
 And.intro @yp.eq_1 <|
 And.intro @yfl <|
 And.intro @ys4.eq_1 <|
 And.intro @ylw.eq_1 <|
 And.intro @yds <|
 And.intro @yxv.eq_1 <|
 And.intro @yrv.eq_1 <|
 And.intro @y0k <|
 And.intro @yts.eq_1 <|
 And.intro @yrr.eq_1 <|
 And.intro @yjt.eq_1 <|
 And.intro @y8i <|
 And.intro @y9o.eq_1 <|
 And.intro @yq.eq_1 <|
 And.intro @ywb.eq_1 <|
 And.intro @yig <|
 And.intro @yqn <|
 And.intro @yko <|
 And.intro @ygg <|
 And.intro @yqo <|
 And.intro @yan <|
 And.intro @eIu8.eq_1 <|
 And.intro @dIu8.eq_1 <|
 And.intro @yoi <|
 And.intro @yxs <|
 And.intro @y9r <|
 And.intro @eS.eq_1 <|
 And.intro @dS.eq_1 <|
 And.intro @ydt <|
 And.intro @y41 <|
 And.intro @yv1 <|
 And.intro @yce <|
 And.intro @ytj <|
 And.intro @y2i <|
 And.intro @yhm <|
 And.intro @yht <|
 And.intro @ynt <|
 And.intro @yyn <|
 And.intro @y0m <| @yup
theorem bdv:type_of% (And.intro @bdS.eq_1 <| And.intro @bdMark.eq_1 <| And.intro @bdLIi64.eq_1 <| And.intro @bdCharacter.eq_1 <| And.intro @bdSector.eq_1 <| And.intro @bdLSector.eq_1 <| And.intro @bdAid.eq_1 <| And.intro @bdItem.eq_1 <| And.intro @bdNotice.eq_1 <| And.intro @bdLAid.eq_1 <| And.intro @bdEdition.eq_1 <| And.intro @bwS.eq_1 <| And.intro @bwMark.eq_1 <| And.intro @bwLIi64.eq_1 <| And.intro @bwCharacter.eq_1 <| And.intro @bwSector.eq_1 <| And.intro @bwLSector.eq_1 <| And.intro @bwAid.eq_1 <| And.intro @bwItem.eq_1 <| And.intro @bwNotice.eq_1 <| And.intro @bwLAid.eq_1 <| And.intro @bwEdition.eq_1 <| @Nat.le_refl):=
 And.intro @bdS.eq_1 <| And.intro @bdMark.eq_1 <| And.intro @bdLIi64.eq_1 <| And.intro @bdCharacter.eq_1 <| And.intro @bdSector.eq_1 <| And.intro @bdLSector.eq_1 <| And.intro @bdAid.eq_1 <| And.intro @bdItem.eq_1 <| And.intro @bdNotice.eq_1 <| And.intro @bdLAid.eq_1 <| And.intro @bdEdition.eq_1 <| And.intro @bwS.eq_1 <| And.intro @bwMark.eq_1 <| And.intro @bwLIi64.eq_1 <| And.intro @bwCharacter.eq_1 <| And.intro @bwSector.eq_1 <| And.intro @bwLSector.eq_1 <| And.intro @bwAid.eq_1 <| And.intro @bwItem.eq_1 <| And.intro @bwNotice.eq_1 <| And.intro @bwLAid.eq_1 <| And.intro @bwEdition.eq_1 <| @Nat.le_refl
end Go.Ab
