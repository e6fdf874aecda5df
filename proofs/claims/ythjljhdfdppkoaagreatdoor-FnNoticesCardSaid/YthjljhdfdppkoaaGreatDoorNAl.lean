/- A part of a proof: walks of functions and lemmas of our own. No conditions. -/
import Derived.Test.YthjljhdfdppkoaaGreatDoorNAk
import Derived.Test.YthjljhdfdppkoaaGreatDoorNAh
import Derived.KernelRfl
import Derived.Lib.LaidTab
import Derived.Lib.Fields
import Derived.Lib.ItoaNum
import Derived.Test.YthjljhdfdppkoaaGreatDoorProg
set_option linter.unusedSectionVars false
set_option linter.unusedVariables false
set_option linter.unusedSimpArgs false
set_option maxHeartbeats 1000000
namespace Go.Ab
open Go Go.Proofs
def tn0:String:= "internal/strconv.uint64pow10"
def tn1:String:= "strings.asciiSpace"
def yoq (w:World):Prop:=(Go.Lib.TabIs Tryz.prog w tn0 .u64 Go.Lib.pow10Tab/\∃ m,w.cell? ⟨0,0,none⟩=some (.int .i64 m))/\(∃ te pe,w.cell? ⟨1,0,none⟩=some (.iface te pe))/\(∃ te pe,w.cell? ⟨2,0,none⟩=some (.iface te pe))/\Go.Lib.TabIs Tryz.prog w tn1 .u8 Go.Lib.asciiSpaceTab
theorem g0:Tryz.prog.globalNamed tn0=some 3:=by kernel_rfl
theorem g1:Tryz.prog.globalNamed tn1=some 6:=by kernel_rfl
theorem yjy {w:World} (h:yoq w):6<w.heap.size:=by
 have h:=h.2.2.2;by_cases hl:6<w.heap.size
 ·exact hl
 ·have h5:w.heap[6]? = none:=Array.getElem?_eq_none (by omega)
  unfold Go.Lib.TabIs World.var? at h;rw[g1]at h;simp[h5]at h
theorem yxi {w w':World} {b:Nat} (h:w'.heap[b]? = w.heap[b]?):w'.cell? ⟨b,0,none⟩=w.cell? ⟨b,0,none⟩:=by
 unfold World.cell?;simp only[h]
instance inv0:Inv:=⟨yoq,fun b=>b<=6,fun w h b hb=>by have:=yjy h;omega,fun w w' h ho hb=>by
  obtain⟨⟨h1,h2⟩,h3,h4,h5⟩:=h;refine⟨⟨?_,by rw[yxi (hb 0 (by omega))];exact h2⟩,by rw[yxi (hb 1 (by omega))];exact h3,by rw[yxi (hb 2 (by omega))];exact h4,?_⟩
  ·unfold Go.Lib.TabIs World.var? at h1 ⊢
   rw[g0]at h1 ⊢;simp only[Option.bind_some]at h1 ⊢;rw[hb 3 (by omega)];exact h1
  ·unfold Go.Lib.TabIs World.var? at h5 ⊢
   rw[g1]at h5 ⊢;simp only[Option.bind_some]at h5 ⊢;rw[hb 6 (by omega)]
   exact h5⟩
def wGO {α : Type} (e : α -> List AV) (d : List AV -> α) : AV -> Prop
 | .agg cs=>ydc cs (e (d cs))
 | _=>False
theorem y40 {α:Type} [Inhabited α] {e:α->List AV} {d:List AV->α} {a:AV} (h:wGO e d a):simO a (.agg (e (rdG d a))):=by
 cases a<;>simp_all[wGO,rdG,simO]
def rdQ {α : Type} [Inhabited α] (d : List AV -> α) : AV -> α
 | .op cs=>d cs
 | _=>default
def wQ {α : Type} (e : α -> List AV) (d : List AV -> α) : AV -> Prop
 | .op cs=>cs=e (d cs)\/ydc cs (e (d cs))
 | _=>False
theorem ym8 {α:Type} [Inhabited α] {e:α->List AV} {d:List AV->α} {a:AV} (h:wQ e d a):simO a (.op (e (rdQ d a))):=by
 cases a with
 | op cs=>
  simp only[wQ]at h;simp only[rdQ,simO];rcases h with h|h
  ·rw[<- h];exact y6 _
  ·exact h
 | _=>simp[wQ]at h
def G:Env:=[(2,⟨.int .i64,1,8,[.int .i64 0],true⟩),
 (3,⟨.int .i64,1,8,[.int .i64 0],true⟩),
 (4,⟨.bool,1,1,[.bool false],true⟩),
 (5,⟨.int .u8,1,1,[.int .u8 0],true⟩),
 (9,⟨.string,1,16,[.str []],true⟩),
 (21,⟨.int .i32,1,4,[.int .i32 0],true⟩),
 (22,⟨.slice 5,1,24,[.nils],true⟩),
 (24,⟨.slice 37,1,24,[.nils],true⟩),
 (26,⟨.slice 39,1,24,[.nils],true⟩),
 (29,⟨.struct [(0,2),(1,2)] true,2,16,[.int .i64 0,.int .i64 0],true⟩),
 (31,⟨.struct [(0,2),(1,9),(2,9),(3,9)] true,4,56,[.int .i64 0,.str [],.str [],.str []],true⟩),
 (32,⟨.slice 2,1,24,[.nils],true⟩),
 (34,⟨.struct [(0,2),(1,32),(2,9),(3,9),(4,2)] true,5,72,[.int .i64 0,.nils,.str [],.str [],.int .i64 0],true⟩),
 (35,⟨.slice 144,1,24,[.nils],true⟩),
 (37,⟨.struct [(0,2),(1,9),(2,29),(4,2),(5,31),(9,34),(14,35),(15,2)] true,16,208,[.int .i64 0,.str [],.int .i64 0,.int .i64 0,.int .i64 0,.int .i64 0,.str [],.str [],.str [],.int .i64 0,.nils,.str [],.str [],.int .i64 0,.nils,.int .i64 0],true⟩),
 (39,⟨.struct [(0,2),(1,2),(2,2),(3,2),(4,37)] true,20,240,[.int .i64 0,.int .i64 0,.int .i64 0,.int .i64 0,.int .i64 0,.str [],.int .i64 0,.int .i64 0,.int .i64 0,.int .i64 0,.str [],.str [],.str [],.int .i64 0,.nils,.str [],.str [],.int .i64 0,.nils,.int .i64 0],true⟩),
 (63,⟨.slice 9,1,24,[.nils],true⟩),
 (82,⟨.int .u64,1,8,[.int .u64 0],true⟩),
 (84,⟨.struct [(0,22),(1,3),(2,82)] true,3,40,[.nils,.int .i64 0,.int .u64 0],true⟩),
 (99,⟨.array 7 4,7,7,[.bool false,.bool false,.bool false,.bool false,.bool false,.bool false,.bool false],true⟩),
 (144,⟨.struct [(0,2),(1,2),(2,9)] true,3,32,[.int .i64 0,.int .i64 0,.str []],true⟩),
 (194,⟨.array 12 2,12,96,[.int .i64 0,.int .i64 0,.int .i64 0,.int .i64 0,.int .i64 0,.int .i64 0,.int .i64 0,.int .i64 0,.int .i64 0,.int .i64 0,.int .i64 0,.int .i64 0],true⟩),
 (247,⟨.array 26 9,26,416,[.str [],.str [],.str [],.str [],.str [],.str [],.str [],.str [],.str [],.str [],.str [],.str [],.str [],.str [],.str [],.str [],.str [],.str [],.str [],.str [],.str [],.str [],.str [],.str [],.str [],.str []],true⟩)]
theorem G_ok:TyOk Tryz.prog G:=by unfold TyOk;kernel_rfl
theorem gv:tget G 2=some ⟨.int .i64,1,8,[.int .i64 0],true⟩ /\
 tget G 3=some ⟨.int .i64,1,8,[.int .i64 0],true⟩ /\
 tget G 4=some ⟨.bool,1,1,[.bool false],true⟩ /\
 tget G 5=some ⟨.int .u8,1,1,[.int .u8 0],true⟩ /\
 tget G 9=some ⟨.string,1,16,[.str []],true⟩ /\
 tget G 21=some ⟨.int .i32,1,4,[.int .i32 0],true⟩ /\
 tget G 22=some ⟨.slice 5,1,24,[.nils],true⟩ /\
 tget G 24=some ⟨.slice 37,1,24,[.nils],true⟩ /\
 tget G 26=some ⟨.slice 39,1,24,[.nils],true⟩ /\
 tget G 29=some ⟨.struct [(0,2),(1,2)] true,2,16,[.int .i64 0,.int .i64 0],true⟩ /\
 tget G 31=some ⟨.struct [(0,2),(1,9),(2,9),(3,9)] true,4,56,[.int .i64 0,.str [],.str [],.str []],true⟩ /\
 tget G 32=some ⟨.slice 2,1,24,[.nils],true⟩ /\
 tget G 34=some ⟨.struct [(0,2),(1,32),(2,9),(3,9),(4,2)] true,5,72,[.int .i64 0,.nils,.str [],.str [],.int .i64 0],true⟩ /\
 tget G 35=some ⟨.slice 144,1,24,[.nils],true⟩ /\
 tget G 37=some ⟨.struct [(0,2),(1,9),(2,29),(4,2),(5,31),(9,34),(14,35),(15,2)] true,16,208,[.int .i64 0,.str [],.int .i64 0,.int .i64 0,.int .i64 0,.int .i64 0,.str [],.str [],.str [],.int .i64 0,.nils,.str [],.str [],.int .i64 0,.nils,.int .i64 0],true⟩ /\
 tget G 39=some ⟨.struct [(0,2),(1,2),(2,2),(3,2),(4,37)] true,20,240,[.int .i64 0,.int .i64 0,.int .i64 0,.int .i64 0,.int .i64 0,.str [],.int .i64 0,.int .i64 0,.int .i64 0,.int .i64 0,.str [],.str [],.str [],.int .i64 0,.nils,.str [],.str [],.int .i64 0,.nils,.int .i64 0],true⟩ /\
 tget G 63=some ⟨.slice 9,1,24,[.nils],true⟩ /\
 tget G 82=some ⟨.int .u64,1,8,[.int .u64 0],true⟩ /\
 tget G 84=some ⟨.struct [(0,22),(1,3),(2,82)] true,3,40,[.nils,.int .i64 0,.int .u64 0],true⟩ /\
 tget G 99=some ⟨.array 7 4,7,7,[.bool false,.bool false,.bool false,.bool false,.bool false,.bool false,.bool false],true⟩ /\
 tget G 144=some ⟨.struct [(0,2),(1,2),(2,9)] true,3,32,[.int .i64 0,.int .i64 0,.str []],true⟩ /\
 tget G 194=some ⟨.array 12 2,12,96,[.int .i64 0,.int .i64 0,.int .i64 0,.int .i64 0,.int .i64 0,.int .i64 0,.int .i64 0,.int .i64 0,.int .i64 0,.int .i64 0,.int .i64 0,.int .i64 0],true⟩ /\
 tget G 247=some ⟨.array 26 9,26,416,[.str [],.str [],.str [],.str [],.str [],.str [],.str [],.str [],.str [],.str [],.str [],.str [],.str [],.str [],.str [],.str [],.str [],.str [],.str [],.str [],.str [],.str [],.str [],.str [],.str [],.str []],true⟩:=by
 and_intros<;>rfl
theorem mixed:Tryz.prog.follows .mixedOrders=true:=by kernel_rfl
def yx (v:Int):List AV:=[.int .i64 v]
def ynb : List AV -> Int
 | [c]=>rdI c
 | _=>default
def eIu8 (v:Int):List AV:=[.int .u8 v]
def dIu8 : List AV -> Int
 | [c]=>rdI c
 | _=>default
def eS (v:(List UInt8)):List AV:=[.str v]
def dS : List AV -> (List UInt8)
 | [c]=>rdS c
 | _=>default
structure Point where
 X:Int
 Y:Int
 deriving Inhabited,DecidableEq
def ypf (v:Point):List AV:=[.int .i64 v.X,.int .i64 v.Y]
def y1k : List AV -> Point
 | c0::c1::_=>⟨rdI c0,rdI c1⟩
 | _=>default
theorem yxz (v:Point):Point.mk v.X v.Y=v:=rfl
structure Mark where
 Kind:Int
 Colors:(List UInt8)
 Shape:(List UInt8)
 Topmark:(List UInt8)
 deriving Inhabited,DecidableEq
def ygh (v:Mark):List AV:=[.int .i64 v.Kind,.str v.Colors,.str v.Shape,.str v.Topmark]
def yhm : List AV -> Mark
 | c0::c1::c2::c3::_=>⟨rdI c0,rdS c1,rdS c2,rdS c3⟩
 | _=>default
theorem yc4 (v:Mark):Mark.mk v.Kind v.Colors v.Shape v.Topmark=v:=rfl
structure Character where
 Kind:Int
 Group:(List Int)
 Letter:(List UInt8)
 Colors:(List UInt8)
 Period:Int
 deriving Inhabited,DecidableEq
def yj (v:Character):List AV:=[.int .i64 v.Kind,encL 1 yx v.Group,.str v.Letter,.str v.Colors,.int .i64 v.Period]
def y6b (v:Character):List AV:=[.int .i64 v.Kind,ownL 2 1 yx v.Group,.str v.Letter,.str v.Colors,.int .i64 v.Period]
def yg : List AV -> Character
 | c0::c1::c2::c3::c4::_=>⟨rdI c0,rdL ynb c1,rdS c2,rdS c3,rdI c4⟩
 | _=>default
theorem yco (v:Character):Character.mk v.Kind v.Group v.Letter v.Colors v.Period=v:=rfl
structure Sector where
 From:Int
 To:Int
 Color:(List UInt8)
 deriving Inhabited,DecidableEq
def yr (v:Sector):List AV:=[.int .i64 v.From,.int .i64 v.To,.str v.Color]
def yz : List AV -> Sector
 | c0::c1::c2::_=>⟨rdI c0,rdI c1,rdS c2⟩
 | _=>default
theorem y9y (v:Sector):Sector.mk v.From v.To v.Color=v:=rfl
structure Aid where
 Number:Int
 Name:(List UInt8)
 At:Point
 Height:Int
 Mark:Mark
 Light:Character
 Sectors:(List Sector)
 Intensity:Int
 deriving Inhabited,DecidableEq
def eAid (v:Aid):List AV:=[.int .i64 v.Number,.str v.Name,.int .i64 v.At.X,.int .i64 v.At.Y,.int .i64 v.Height,.int .i64 v.Mark.Kind,.str v.Mark.Colors,.str v.Mark.Shape,.str v.Mark.Topmark,.int .i64 v.Light.Kind,encL 1 yx v.Light.Group,.str v.Light.Letter,.str v.Light.Colors,.int .i64 v.Light.Period,encL 3 yr v.Sectors,.int .i64 v.Intensity]
def y4b (v:Aid):List AV:=[.int .i64 v.Number,.str v.Name,.int .i64 v.At.X,.int .i64 v.At.Y,.int .i64 v.Height,.int .i64 v.Mark.Kind,.str v.Mark.Colors,.str v.Mark.Shape,.str v.Mark.Topmark,.int .i64 v.Light.Kind,ownL 2 1 yx v.Light.Group,.str v.Light.Letter,.str v.Light.Colors,.int .i64 v.Light.Period,ownL 144 3 yr v.Sectors,.int .i64 v.Intensity]
def dAid : List AV -> Aid
 | c0::c1::c2::c3::c4::c5::c6::c7::c8::c9::c10::c11::c12::c13::c14::c15::_=>⟨rdI c0,rdS c1,⟨rdI c2,rdI c3⟩,rdI c4,⟨rdI c5,rdS c6,rdS c7,rdS c8⟩,⟨rdI c9,rdL ynb c10,rdS c11,rdS c12,rdI c13⟩,rdL yz c14,rdI c15⟩
 | _=>default
theorem yd9 (v:Aid):Aid.mk v.Number v.Name v.At v.Height v.Mark v.Light v.Sectors v.Intensity=v:=rfl
structure Notice where
 Number:Int
 Day:Int
 Kind:Int
 Target:Int
 Aid:Aid
 deriving Inhabited,DecidableEq
def ye (v:Notice):List AV:=[.int .i64 v.Number,.int .i64 v.Day,.int .i64 v.Kind,.int .i64 v.Target,.int .i64 v.Aid.Number,.str v.Aid.Name,.int .i64 v.Aid.At.X,.int .i64 v.Aid.At.Y,.int .i64 v.Aid.Height,.int .i64 v.Aid.Mark.Kind,.str v.Aid.Mark.Colors,.str v.Aid.Mark.Shape,.str v.Aid.Mark.Topmark,.int .i64 v.Aid.Light.Kind,encL 1 yx v.Aid.Light.Group,.str v.Aid.Light.Letter,.str v.Aid.Light.Colors,.int .i64 v.Aid.Light.Period,encL 3 yr v.Aid.Sectors,.int .i64 v.Aid.Intensity]
def y7b (v:Notice):List AV:=[.int .i64 v.Number,.int .i64 v.Day,.int .i64 v.Kind,.int .i64 v.Target,.int .i64 v.Aid.Number,.str v.Aid.Name,.int .i64 v.Aid.At.X,.int .i64 v.Aid.At.Y,.int .i64 v.Aid.Height,.int .i64 v.Aid.Mark.Kind,.str v.Aid.Mark.Colors,.str v.Aid.Mark.Shape,.str v.Aid.Mark.Topmark,.int .i64 v.Aid.Light.Kind,ownL 2 1 yx v.Aid.Light.Group,.str v.Aid.Light.Letter,.str v.Aid.Light.Colors,.int .i64 v.Aid.Light.Period,ownL 144 3 yr v.Aid.Sectors,.int .i64 v.Aid.Intensity]
def yc : List AV -> Notice
 | c0::c1::c2::c3::c4::c5::c6::c7::c8::c9::c10::c11::c12::c13::c14::c15::c16::c17::c18::c19::_=>⟨rdI c0,rdI c1,rdI c2,rdI c3,⟨rdI c4,rdS c5,⟨rdI c6,rdI c7⟩,rdI c8,⟨rdI c9,rdS c10,rdS c11,rdS c12⟩,⟨rdI c13,rdL ynb c14,rdS c15,rdS c16,rdI c17⟩,rdL yz c18,rdI c19⟩⟩
 | _=>default
theorem ylz (v:Notice):Notice.mk v.Number v.Day v.Kind v.Target v.Aid=v:=rfl
structure l00Src where
 code:(List Int)
 at_:Int
 seed:Int
 deriving Inhabited,DecidableEq
def yu (v:l00Src):List AV:=[encL 1 eIu8 v.code,.int .i64 v.at_,.int .u64 v.seed]
def y54 (v:l00Src):List AV:=[ownL 5 1 eIu8 v.code,.int .i64 v.at_,.int .u64 v.seed]
def yw : List AV -> l00Src
 | c0::c1::c2::_=>⟨rdL dIu8 c0,rdI c1,rdI c2⟩
 | _=>default
theorem yzy (v:l00Src):l00Src.mk v.code v.at_ v.seed=v:=rfl
theorem ynf (l:List Int):decL ynb l.length (fun i=>[.int .i64 (l.getD i default)])=l:=yyb l
theorem y50 (l:List Int) (lo n:Nat):decL ynb n (fun i=>[.int .i64 (l.getD (lo+i) default)])=subL l lo n:=rfl
theorem y11 (l:List Int) (n:Nat):decL ynb n (fun i=>[.int .i64 (l.getD i default)])=subL l 0 n:=by simp only[subL,Nat.zero_add];rfl
theorem y9h (l:List Int):decL dIu8 l.length (fun i=>[.int .u8 (l.getD i default)])=l:=yyb l
theorem yf3 (l:List Int) (lo n:Nat):decL dIu8 n (fun i=>[.int .u8 (l.getD (lo+i) default)])=subL l lo n:=rfl
theorem yv3 (l:List Int) (n:Nat):decL dIu8 n (fun i=>[.int .u8 (l.getD i default)])=subL l 0 n:=by simp only[subL,Nat.zero_add];rfl
theorem yjq (l:List (List UInt8)):decL dS l.length (fun i=>[.str (l.getD i default)])=l:=yyb l
theorem yqbb (l:List (List UInt8)) (lo n:Nat):decL dS n (fun i=>[.str (l.getD (lo+i) default)])=subL l lo n:=rfl
theorem y7ab (l:List (List UInt8)) (n:Nat):decL dS n (fun i=>[.str (l.getD i default)])=subL l 0 n:=by simp only[subL,Nat.zero_add];rfl
theorem y2d (l:List Sector):decL yz l.length (fun i=>[.int .i64 ((l.getD i default).From),.int .i64 ((l.getD i default).To),.str ((l.getD i default).Color)])=l:=yyb l
theorem ybv (l:List Sector) (lo n:Nat):decL yz n (fun i=>[.int .i64 ((l.getD (lo+i) default).From),.int .i64 ((l.getD (lo+i) default).To),.str ((l.getD (lo+i) default).Color)])=subL l lo n:=rfl
theorem ytt (l:List Sector) (n:Nat):decL yz n (fun i=>[.int .i64 ((l.getD i default).From),.int .i64 ((l.getD i default).To),.str ((l.getD i default).Color)])=subL l 0 n:=by simp only[subL,Nat.zero_add];rfl
theorem yiu (v:Aid):dAid [.int .i64 v.Number,.str v.Name,.int .i64 v.At.X,.int .i64 v.At.Y,.int .i64 v.Height,.int .i64 v.Mark.Kind,.str v.Mark.Colors,.str v.Mark.Shape,.str v.Mark.Topmark,.int .i64 v.Light.Kind,.sl none 1 v.Light.Group.length (fun j=>[.int .i64 (v.Light.Group.getD j default)]),.str v.Light.Letter,.str v.Light.Colors,.int .i64 v.Light.Period,.sl none 3 v.Sectors.length (fun j=>[.int .i64 ((v.Sectors.getD j default).From),.int .i64 ((v.Sectors.getD j default).To),.str ((v.Sectors.getD j default).Color)]),.int .i64 v.Intensity]=v:=by simp only[dAid,rdI,rdB,rdS,rdL,ynf,y9h,yjq,y2d]
theorem ymk (l:List Aid):decL dAid l.length (fun i=>[.int .i64 ((l.getD i default).Number),.str ((l.getD i default).Name),.int .i64 (((l.getD i default).At).X),.int .i64 (((l.getD i default).At).Y),.int .i64 ((l.getD i default).Height),.int .i64 (((l.getD i default).Mark).Kind),.str (((l.getD i default).Mark).Colors),.str (((l.getD i default).Mark).Shape),.str (((l.getD i default).Mark).Topmark),.int .i64 (((l.getD i default).Light).Kind),.sl none 1 (((l.getD i default).Light).Group).length (fun j=>[.int .i64 ((((l.getD i default).Light).Group).getD j default)]),.str (((l.getD i default).Light).Letter),.str (((l.getD i default).Light).Colors),.int .i64 (((l.getD i default).Light).Period),.sl none 3 ((l.getD i default).Sectors).length (fun j=>[.int .i64 ((((l.getD i default).Sectors).getD j default).From),.int .i64 ((((l.getD i default).Sectors).getD j default).To),.str ((((l.getD i default).Sectors).getD j default).Color)]),.int .i64 ((l.getD i default).Intensity)])=l:=(List.map_congr_left fun i _=>yiu (l.getD i default)).trans (yyb l)
theorem yd3 (l:List Aid) (lo n:Nat):decL dAid n (fun i=>[.int .i64 ((l.getD (lo+i) default).Number),.str ((l.getD (lo+i) default).Name),.int .i64 (((l.getD (lo+i) default).At).X),.int .i64 (((l.getD (lo+i) default).At).Y),.int .i64 ((l.getD (lo+i) default).Height),.int .i64 (((l.getD (lo+i) default).Mark).Kind),.str (((l.getD (lo+i) default).Mark).Colors),.str (((l.getD (lo+i) default).Mark).Shape),.str (((l.getD (lo+i) default).Mark).Topmark),.int .i64 (((l.getD (lo+i) default).Light).Kind),.sl none 1 (((l.getD (lo+i) default).Light).Group).length (fun j=>[.int .i64 ((((l.getD (lo+i) default).Light).Group).getD j default)]),.str (((l.getD (lo+i) default).Light).Letter),.str (((l.getD (lo+i) default).Light).Colors),.int .i64 (((l.getD (lo+i) default).Light).Period),.sl none 3 ((l.getD (lo+i) default).Sectors).length (fun j=>[.int .i64 ((((l.getD (lo+i) default).Sectors).getD j default).From),.int .i64 ((((l.getD (lo+i) default).Sectors).getD j default).To),.str ((((l.getD (lo+i) default).Sectors).getD j default).Color)]),.int .i64 ((l.getD (lo+i) default).Intensity)])=subL l lo n:=List.map_congr_left fun i _=>yiu (l.getD (lo+i) default)
theorem yp3 (l:List Aid) (n:Nat):decL dAid n (fun i=>[.int .i64 ((l.getD i default).Number),.str ((l.getD i default).Name),.int .i64 (((l.getD i default).At).X),.int .i64 (((l.getD i default).At).Y),.int .i64 ((l.getD i default).Height),.int .i64 (((l.getD i default).Mark).Kind),.str (((l.getD i default).Mark).Colors),.str (((l.getD i default).Mark).Shape),.str (((l.getD i default).Mark).Topmark),.int .i64 (((l.getD i default).Light).Kind),.sl none 1 (((l.getD i default).Light).Group).length (fun j=>[.int .i64 ((((l.getD i default).Light).Group).getD j default)]),.str (((l.getD i default).Light).Letter),.str (((l.getD i default).Light).Colors),.int .i64 (((l.getD i default).Light).Period),.sl none 3 ((l.getD i default).Sectors).length (fun j=>[.int .i64 ((((l.getD i default).Sectors).getD j default).From),.int .i64 ((((l.getD i default).Sectors).getD j default).To),.str ((((l.getD i default).Sectors).getD j default).Color)]),.int .i64 ((l.getD i default).Intensity)])=subL l 0 n:=by simp only[subL,Nat.zero_add];exact List.map_congr_left fun i _=>yiu (l.getD i default)
theorem ycp (v:Aid):dAid [.int .i64 v.Number,.str v.Name,.int .i64 v.At.X,.int .i64 v.At.Y,.int .i64 v.Height,.int .i64 v.Mark.Kind,.str v.Mark.Colors,.str v.Mark.Shape,.str v.Mark.Topmark,.int .i64 v.Light.Kind,.sl (some 2) 1 v.Light.Group.length (fun j=>[.int .i64 (v.Light.Group.getD j default)]),.str v.Light.Letter,.str v.Light.Colors,.int .i64 v.Light.Period,.sl (some 144) 3 v.Sectors.length (fun j=>[.int .i64 ((v.Sectors.getD j default).From),.int .i64 ((v.Sectors.getD j default).To),.str ((v.Sectors.getD j default).Color)]),.int .i64 v.Intensity]=v:=by simp only[dAid,rdI,rdB,rdS,rdL,ynf,y9h,yjq,y2d,ymk]
theorem y0l (l:List Aid):decL dAid l.length (fun i=>[.int .i64 ((l.getD i default).Number),.str ((l.getD i default).Name),.int .i64 (((l.getD i default).At).X),.int .i64 (((l.getD i default).At).Y),.int .i64 ((l.getD i default).Height),.int .i64 (((l.getD i default).Mark).Kind),.str (((l.getD i default).Mark).Colors),.str (((l.getD i default).Mark).Shape),.str (((l.getD i default).Mark).Topmark),.int .i64 (((l.getD i default).Light).Kind),.sl (some 2) 1 (((l.getD i default).Light).Group).length (fun j=>[.int .i64 ((((l.getD i default).Light).Group).getD j default)]),.str (((l.getD i default).Light).Letter),.str (((l.getD i default).Light).Colors),.int .i64 (((l.getD i default).Light).Period),.sl (some 144) 3 ((l.getD i default).Sectors).length (fun j=>[.int .i64 ((((l.getD i default).Sectors).getD j default).From),.int .i64 ((((l.getD i default).Sectors).getD j default).To),.str ((((l.getD i default).Sectors).getD j default).Color)]),.int .i64 ((l.getD i default).Intensity)])=l:=(List.map_congr_left fun i _=>ycp (l.getD i default)).trans (yyb l)
theorem y0z (l:List Aid) (lo n:Nat):decL dAid n (fun i=>[.int .i64 ((l.getD (lo+i) default).Number),.str ((l.getD (lo+i) default).Name),.int .i64 (((l.getD (lo+i) default).At).X),.int .i64 (((l.getD (lo+i) default).At).Y),.int .i64 ((l.getD (lo+i) default).Height),.int .i64 (((l.getD (lo+i) default).Mark).Kind),.str (((l.getD (lo+i) default).Mark).Colors),.str (((l.getD (lo+i) default).Mark).Shape),.str (((l.getD (lo+i) default).Mark).Topmark),.int .i64 (((l.getD (lo+i) default).Light).Kind),.sl (some 2) 1 (((l.getD (lo+i) default).Light).Group).length (fun j=>[.int .i64 ((((l.getD (lo+i) default).Light).Group).getD j default)]),.str (((l.getD (lo+i) default).Light).Letter),.str (((l.getD (lo+i) default).Light).Colors),.int .i64 (((l.getD (lo+i) default).Light).Period),.sl (some 144) 3 ((l.getD (lo+i) default).Sectors).length (fun j=>[.int .i64 ((((l.getD (lo+i) default).Sectors).getD j default).From),.int .i64 ((((l.getD (lo+i) default).Sectors).getD j default).To),.str ((((l.getD (lo+i) default).Sectors).getD j default).Color)]),.int .i64 ((l.getD (lo+i) default).Intensity)])=subL l lo n:=List.map_congr_left fun i _=>ycp (l.getD (lo+i) default)
theorem yp0 (l:List Aid) (n:Nat):decL dAid n (fun i=>[.int .i64 ((l.getD i default).Number),.str ((l.getD i default).Name),.int .i64 (((l.getD i default).At).X),.int .i64 (((l.getD i default).At).Y),.int .i64 ((l.getD i default).Height),.int .i64 (((l.getD i default).Mark).Kind),.str (((l.getD i default).Mark).Colors),.str (((l.getD i default).Mark).Shape),.str (((l.getD i default).Mark).Topmark),.int .i64 (((l.getD i default).Light).Kind),.sl (some 2) 1 (((l.getD i default).Light).Group).length (fun j=>[.int .i64 ((((l.getD i default).Light).Group).getD j default)]),.str (((l.getD i default).Light).Letter),.str (((l.getD i default).Light).Colors),.int .i64 (((l.getD i default).Light).Period),.sl (some 144) 3 ((l.getD i default).Sectors).length (fun j=>[.int .i64 ((((l.getD i default).Sectors).getD j default).From),.int .i64 ((((l.getD i default).Sectors).getD j default).To),.str ((((l.getD i default).Sectors).getD j default).Color)]),.int .i64 ((l.getD i default).Intensity)])=subL l 0 n:=by simp only[subL,Nat.zero_add];exact List.map_congr_left fun i _=>ycp (l.getD i default)
theorem yed (v:Notice):yc [.int .i64 v.Number,.int .i64 v.Day,.int .i64 v.Kind,.int .i64 v.Target,.int .i64 v.Aid.Number,.str v.Aid.Name,.int .i64 v.Aid.At.X,.int .i64 v.Aid.At.Y,.int .i64 v.Aid.Height,.int .i64 v.Aid.Mark.Kind,.str v.Aid.Mark.Colors,.str v.Aid.Mark.Shape,.str v.Aid.Mark.Topmark,.int .i64 v.Aid.Light.Kind,.sl none 1 v.Aid.Light.Group.length (fun j=>[.int .i64 (v.Aid.Light.Group.getD j default)]),.str v.Aid.Light.Letter,.str v.Aid.Light.Colors,.int .i64 v.Aid.Light.Period,.sl none 3 v.Aid.Sectors.length (fun j=>[.int .i64 ((v.Aid.Sectors.getD j default).From),.int .i64 ((v.Aid.Sectors.getD j default).To),.str ((v.Aid.Sectors.getD j default).Color)]),.int .i64 v.Aid.Intensity]=v:=by simp only[yc,rdI,rdB,rdS,rdL,ynf,y9h,yjq,y2d,ymk,y0l]
theorem y3k (l:List Notice):decL yc l.length (fun i=>[.int .i64 ((l.getD i default).Number),.int .i64 ((l.getD i default).Day),.int .i64 ((l.getD i default).Kind),.int .i64 ((l.getD i default).Target),.int .i64 (((l.getD i default).Aid).Number),.str (((l.getD i default).Aid).Name),.int .i64 ((((l.getD i default).Aid).At).X),.int .i64 ((((l.getD i default).Aid).At).Y),.int .i64 (((l.getD i default).Aid).Height),.int .i64 ((((l.getD i default).Aid).Mark).Kind),.str ((((l.getD i default).Aid).Mark).Colors),.str ((((l.getD i default).Aid).Mark).Shape),.str ((((l.getD i default).Aid).Mark).Topmark),.int .i64 ((((l.getD i default).Aid).Light).Kind),.sl none 1 ((((l.getD i default).Aid).Light).Group).length (fun j=>[.int .i64 (((((l.getD i default).Aid).Light).Group).getD j default)]),.str ((((l.getD i default).Aid).Light).Letter),.str ((((l.getD i default).Aid).Light).Colors),.int .i64 ((((l.getD i default).Aid).Light).Period),.sl none 3 (((l.getD i default).Aid).Sectors).length (fun j=>[.int .i64 (((((l.getD i default).Aid).Sectors).getD j default).From),.int .i64 (((((l.getD i default).Aid).Sectors).getD j default).To),.str (((((l.getD i default).Aid).Sectors).getD j default).Color)]),.int .i64 (((l.getD i default).Aid).Intensity)])=l:=(List.map_congr_left fun i _=>yed (l.getD i default)).trans (yyb l)
theorem yhv (l:List Notice) (lo n:Nat):decL yc n (fun i=>[.int .i64 ((l.getD (lo+i) default).Number),.int .i64 ((l.getD (lo+i) default).Day),.int .i64 ((l.getD (lo+i) default).Kind),.int .i64 ((l.getD (lo+i) default).Target),.int .i64 (((l.getD (lo+i) default).Aid).Number),.str (((l.getD (lo+i) default).Aid).Name),.int .i64 ((((l.getD (lo+i) default).Aid).At).X),.int .i64 ((((l.getD (lo+i) default).Aid).At).Y),.int .i64 (((l.getD (lo+i) default).Aid).Height),.int .i64 ((((l.getD (lo+i) default).Aid).Mark).Kind),.str ((((l.getD (lo+i) default).Aid).Mark).Colors),.str ((((l.getD (lo+i) default).Aid).Mark).Shape),.str ((((l.getD (lo+i) default).Aid).Mark).Topmark),.int .i64 ((((l.getD (lo+i) default).Aid).Light).Kind),.sl none 1 ((((l.getD (lo+i) default).Aid).Light).Group).length (fun j=>[.int .i64 (((((l.getD (lo+i) default).Aid).Light).Group).getD j default)]),.str ((((l.getD (lo+i) default).Aid).Light).Letter),.str ((((l.getD (lo+i) default).Aid).Light).Colors),.int .i64 ((((l.getD (lo+i) default).Aid).Light).Period),.sl none 3 (((l.getD (lo+i) default).Aid).Sectors).length (fun j=>[.int .i64 (((((l.getD (lo+i) default).Aid).Sectors).getD j default).From),.int .i64 (((((l.getD (lo+i) default).Aid).Sectors).getD j default).To),.str (((((l.getD (lo+i) default).Aid).Sectors).getD j default).Color)]),.int .i64 (((l.getD (lo+i) default).Aid).Intensity)])=subL l lo n:=List.map_congr_left fun i _=>yed (l.getD (lo+i) default)
theorem yju (l:List Notice) (n:Nat):decL yc n (fun i=>[.int .i64 ((l.getD i default).Number),.int .i64 ((l.getD i default).Day),.int .i64 ((l.getD i default).Kind),.int .i64 ((l.getD i default).Target),.int .i64 (((l.getD i default).Aid).Number),.str (((l.getD i default).Aid).Name),.int .i64 ((((l.getD i default).Aid).At).X),.int .i64 ((((l.getD i default).Aid).At).Y),.int .i64 (((l.getD i default).Aid).Height),.int .i64 ((((l.getD i default).Aid).Mark).Kind),.str ((((l.getD i default).Aid).Mark).Colors),.str ((((l.getD i default).Aid).Mark).Shape),.str ((((l.getD i default).Aid).Mark).Topmark),.int .i64 ((((l.getD i default).Aid).Light).Kind),.sl none 1 ((((l.getD i default).Aid).Light).Group).length (fun j=>[.int .i64 (((((l.getD i default).Aid).Light).Group).getD j default)]),.str ((((l.getD i default).Aid).Light).Letter),.str ((((l.getD i default).Aid).Light).Colors),.int .i64 ((((l.getD i default).Aid).Light).Period),.sl none 3 (((l.getD i default).Aid).Sectors).length (fun j=>[.int .i64 (((((l.getD i default).Aid).Sectors).getD j default).From),.int .i64 (((((l.getD i default).Aid).Sectors).getD j default).To),.str (((((l.getD i default).Aid).Sectors).getD j default).Color)]),.int .i64 (((l.getD i default).Aid).Intensity)])=subL l 0 n:=by simp only[subL,Nat.zero_add];exact List.map_congr_left fun i _=>yed (l.getD i default)
theorem ybh (v:Notice):yc [.int .i64 v.Number,.int .i64 v.Day,.int .i64 v.Kind,.int .i64 v.Target,.int .i64 v.Aid.Number,.str v.Aid.Name,.int .i64 v.Aid.At.X,.int .i64 v.Aid.At.Y,.int .i64 v.Aid.Height,.int .i64 v.Aid.Mark.Kind,.str v.Aid.Mark.Colors,.str v.Aid.Mark.Shape,.str v.Aid.Mark.Topmark,.int .i64 v.Aid.Light.Kind,.sl (some 2) 1 v.Aid.Light.Group.length (fun j=>[.int .i64 (v.Aid.Light.Group.getD j default)]),.str v.Aid.Light.Letter,.str v.Aid.Light.Colors,.int .i64 v.Aid.Light.Period,.sl (some 144) 3 v.Aid.Sectors.length (fun j=>[.int .i64 ((v.Aid.Sectors.getD j default).From),.int .i64 ((v.Aid.Sectors.getD j default).To),.str ((v.Aid.Sectors.getD j default).Color)]),.int .i64 v.Aid.Intensity]=v:=by simp only[yc,rdI,rdB,rdS,rdL,ynf,y9h,yjq,y2d,ymk,y0l,y3k]
theorem y1q (l:List Notice):decL yc l.length (fun i=>[.int .i64 ((l.getD i default).Number),.int .i64 ((l.getD i default).Day),.int .i64 ((l.getD i default).Kind),.int .i64 ((l.getD i default).Target),.int .i64 (((l.getD i default).Aid).Number),.str (((l.getD i default).Aid).Name),.int .i64 ((((l.getD i default).Aid).At).X),.int .i64 ((((l.getD i default).Aid).At).Y),.int .i64 (((l.getD i default).Aid).Height),.int .i64 ((((l.getD i default).Aid).Mark).Kind),.str ((((l.getD i default).Aid).Mark).Colors),.str ((((l.getD i default).Aid).Mark).Shape),.str ((((l.getD i default).Aid).Mark).Topmark),.int .i64 ((((l.getD i default).Aid).Light).Kind),.sl (some 2) 1 ((((l.getD i default).Aid).Light).Group).length (fun j=>[.int .i64 (((((l.getD i default).Aid).Light).Group).getD j default)]),.str ((((l.getD i default).Aid).Light).Letter),.str ((((l.getD i default).Aid).Light).Colors),.int .i64 ((((l.getD i default).Aid).Light).Period),.sl (some 144) 3 (((l.getD i default).Aid).Sectors).length (fun j=>[.int .i64 (((((l.getD i default).Aid).Sectors).getD j default).From),.int .i64 (((((l.getD i default).Aid).Sectors).getD j default).To),.str (((((l.getD i default).Aid).Sectors).getD j default).Color)]),.int .i64 (((l.getD i default).Aid).Intensity)])=l:=(List.map_congr_left fun i _=>ybh (l.getD i default)).trans (yyb l)
theorem ywq (l:List Notice) (lo n:Nat):decL yc n (fun i=>[.int .i64 ((l.getD (lo+i) default).Number),.int .i64 ((l.getD (lo+i) default).Day),.int .i64 ((l.getD (lo+i) default).Kind),.int .i64 ((l.getD (lo+i) default).Target),.int .i64 (((l.getD (lo+i) default).Aid).Number),.str (((l.getD (lo+i) default).Aid).Name),.int .i64 ((((l.getD (lo+i) default).Aid).At).X),.int .i64 ((((l.getD (lo+i) default).Aid).At).Y),.int .i64 (((l.getD (lo+i) default).Aid).Height),.int .i64 ((((l.getD (lo+i) default).Aid).Mark).Kind),.str ((((l.getD (lo+i) default).Aid).Mark).Colors),.str ((((l.getD (lo+i) default).Aid).Mark).Shape),.str ((((l.getD (lo+i) default).Aid).Mark).Topmark),.int .i64 ((((l.getD (lo+i) default).Aid).Light).Kind),.sl (some 2) 1 ((((l.getD (lo+i) default).Aid).Light).Group).length (fun j=>[.int .i64 (((((l.getD (lo+i) default).Aid).Light).Group).getD j default)]),.str ((((l.getD (lo+i) default).Aid).Light).Letter),.str ((((l.getD (lo+i) default).Aid).Light).Colors),.int .i64 ((((l.getD (lo+i) default).Aid).Light).Period),.sl (some 144) 3 (((l.getD (lo+i) default).Aid).Sectors).length (fun j=>[.int .i64 (((((l.getD (lo+i) default).Aid).Sectors).getD j default).From),.int .i64 (((((l.getD (lo+i) default).Aid).Sectors).getD j default).To),.str (((((l.getD (lo+i) default).Aid).Sectors).getD j default).Color)]),.int .i64 (((l.getD (lo+i) default).Aid).Intensity)])=subL l lo n:=List.map_congr_left fun i _=>ybh (l.getD (lo+i) default)
theorem y3q (l:List Notice) (n:Nat):decL yc n (fun i=>[.int .i64 ((l.getD i default).Number),.int .i64 ((l.getD i default).Day),.int .i64 ((l.getD i default).Kind),.int .i64 ((l.getD i default).Target),.int .i64 (((l.getD i default).Aid).Number),.str (((l.getD i default).Aid).Name),.int .i64 ((((l.getD i default).Aid).At).X),.int .i64 ((((l.getD i default).Aid).At).Y),.int .i64 (((l.getD i default).Aid).Height),.int .i64 ((((l.getD i default).Aid).Mark).Kind),.str ((((l.getD i default).Aid).Mark).Colors),.str ((((l.getD i default).Aid).Mark).Shape),.str ((((l.getD i default).Aid).Mark).Topmark),.int .i64 ((((l.getD i default).Aid).Light).Kind),.sl (some 2) 1 ((((l.getD i default).Aid).Light).Group).length (fun j=>[.int .i64 (((((l.getD i default).Aid).Light).Group).getD j default)]),.str ((((l.getD i default).Aid).Light).Letter),.str ((((l.getD i default).Aid).Light).Colors),.int .i64 ((((l.getD i default).Aid).Light).Period),.sl (some 144) 3 (((l.getD i default).Aid).Sectors).length (fun j=>[.int .i64 (((((l.getD i default).Aid).Sectors).getD j default).From),.int .i64 (((((l.getD i default).Aid).Sectors).getD j default).To),.str (((((l.getD i default).Aid).Sectors).getD j default).Color)]),.int .i64 (((l.getD i default).Aid).Intensity)])=subL l 0 n:=by simp only[subL,Nat.zero_add];exact List.map_congr_left fun i _=>ybh (l.getD i default)
def bdS (v:List UInt8):Prop:=v.length<1099511627776
instance:DecidablePred bdS:=fun v=>inferInstanceAs (Decidable (v.length<1099511627776))
def bdMark (v:Mark):Prop:=bdS v.Colors/\bdS v.Shape/\bdS v.Topmark
instance:DecidablePred bdMark:=fun v=>by unfold bdMark;infer_instance
def bdLIi64 (v:(List Int)):Prop:=v.length<1099511627776
instance:DecidablePred bdLIi64:=fun v=>by unfold bdLIi64;infer_instance
def bdCharacter (v:Character):Prop:=bdLIi64 v.Group/\bdS v.Letter/\bdS v.Colors
instance:DecidablePred bdCharacter:=fun v=>by unfold bdCharacter;infer_instance
def bdSector (v:Sector):Prop:=bdS v.Color
instance:DecidablePred bdSector:=fun v=>by unfold bdSector;infer_instance
def bdLSector (v:(List Sector)):Prop:=v.length<1099511627776/\∀ x∈v,bdSector x
instance:DecidablePred bdLSector:=fun v=>by unfold bdLSector;infer_instance
def bdAid (v:Aid):Prop:=bdS v.Name/\bdMark v.Mark/\bdCharacter v.Light/\bdLSector v.Sectors
instance:DecidablePred bdAid:=fun v=>by unfold bdAid;infer_instance
def bdNotice (v:Notice):Prop:=bdAid v.Aid
instance:DecidablePred bdNotice:=fun v=>by unfold bdNotice;infer_instance
def bdLIu8 (v:(List Int)):Prop:=v.length<1099511627776
instance:DecidablePred bdLIu8:=fun v=>by unfold bdLIu8;infer_instance
def bdl00Src (v:l00Src):Prop:=bdLIu8 v.code
instance:DecidablePred bdl00Src:=fun v=>by unfold bdl00Src;infer_instance
def bwS (v:List UInt8):Prop:=v.length<9223372036854775808
instance:DecidablePred bwS:=fun v=>inferInstanceAs (Decidable (v.length<9223372036854775808))
def bwMark (v:Mark):Prop:=bwS v.Colors/\bwS v.Shape/\bwS v.Topmark
instance:DecidablePred bwMark:=fun v=>by unfold bwMark;infer_instance
def bwLIi64 (v:(List Int)):Prop:=v.length<9223372036854775808
instance:DecidablePred bwLIi64:=fun v=>by unfold bwLIi64;infer_instance
def bwCharacter (v:Character):Prop:=bwLIi64 v.Group/\bwS v.Letter/\bwS v.Colors
instance:DecidablePred bwCharacter:=fun v=>by unfold bwCharacter;infer_instance
def bwSector (v:Sector):Prop:=bwS v.Color
instance:DecidablePred bwSector:=fun v=>by unfold bwSector;infer_instance
def bwLSector (v:(List Sector)):Prop:=v.length<9223372036854775808/\∀ x∈v,bwSector x
instance:DecidablePred bwLSector:=fun v=>by unfold bwLSector;infer_instance
def bwAid (v:Aid):Prop:=bwS v.Name/\bwMark v.Mark/\bwCharacter v.Light/\bwLSector v.Sectors
instance:DecidablePred bwAid:=fun v=>by unfold bwAid;infer_instance
def bwNotice (v:Notice):Prop:=bwAid v.Aid
instance:DecidablePred bwNotice:=fun v=>by unfold bwNotice;infer_instance
def bwLIu8 (v:(List Int)):Prop:=v.length<9223372036854775808
instance:DecidablePred bwLIu8:=fun v=>by unfold bwLIu8;infer_instance
def bwl00Src (v:l00Src):Prop:=bwLIu8 v.code
instance:DecidablePred bwl00Src:=fun v=>by unfold bwl00Src;infer_instance
theorem ycw (v:List UInt8) (h:yrd [.str v]):bwS v:=Nat.lt_succ_of_le h.1
theorem yti (v:Mark) (h:yrd (ygh v)):bwMark v:=⟨Nat.lt_succ_of_le h.2.1,Nat.lt_succ_of_le h.2.2.1,Nat.lt_succ_of_le h.2.2.2.1⟩
theorem yv (v:Character) (h:yrd (yj v)):bwCharacter v:=⟨Nat.lt_succ_of_le (yb h.2.1).1,Nat.lt_succ_of_le h.2.2.1,Nat.lt_succ_of_le h.2.2.2.1⟩
theorem y8 (v:Sector) (h:yrd (yr v)):bwSector v:=Nat.lt_succ_of_le h.2.2.1
theorem y3 (v:Aid) (h:yrd (eAid v)):bwAid v:=⟨Nat.lt_succ_of_le h.2.1,⟨Nat.lt_succ_of_le h.2.2.2.2.2.2.1,Nat.lt_succ_of_le h.2.2.2.2.2.2.2.1,Nat.lt_succ_of_le h.2.2.2.2.2.2.2.2.1⟩,⟨Nat.lt_succ_of_le (yb h.2.2.2.2.2.2.2.2.2.2.1).1,Nat.lt_succ_of_le h.2.2.2.2.2.2.2.2.2.2.2.1,Nat.lt_succ_of_le h.2.2.2.2.2.2.2.2.2.2.2.2.1⟩,⟨Nat.lt_succ_of_le (yb h.2.2.2.2.2.2.2.2.2.2.2.2.2.2.1).1,fun y hy=>y8 y ((yb h.2.2.2.2.2.2.2.2.2.2.2.2.2.2.1).2 y hy)⟩⟩
theorem yi (v:Notice) (h:yrd (ye v)):bwNotice v:=⟨Nat.lt_succ_of_le h.2.2.2.2.2.1,⟨Nat.lt_succ_of_le h.2.2.2.2.2.2.2.2.2.2.1,Nat.lt_succ_of_le h.2.2.2.2.2.2.2.2.2.2.2.1,Nat.lt_succ_of_le h.2.2.2.2.2.2.2.2.2.2.2.2.1⟩,⟨Nat.lt_succ_of_le (yb h.2.2.2.2.2.2.2.2.2.2.2.2.2.2.1).1,Nat.lt_succ_of_le h.2.2.2.2.2.2.2.2.2.2.2.2.2.2.2.1,Nat.lt_succ_of_le h.2.2.2.2.2.2.2.2.2.2.2.2.2.2.2.2.1⟩,⟨Nat.lt_succ_of_le (yb h.2.2.2.2.2.2.2.2.2.2.2.2.2.2.2.2.2.2.1).1,fun y hy=>y8 y ((yb h.2.2.2.2.2.2.2.2.2.2.2.2.2.2.2.2.2.2.1).2 y hy)⟩⟩
theorem ygb (v:l00Src) (h:yrd (yu v)):bwl00Src v:=Nat.lt_succ_of_le (yb h.1).1
theorem fl5 (p:Nat->Prop):(∀ i,i<5->p i)=(p 0/\p 1/\p 2/\p 3/\p 4):=by
 apply propext;refine⟨fun h=>⟨h 0 (by omega),h 1 (by omega),h 2 (by omega),h 3 (by omega),h 4 (by omega)⟩,fun h i hi => ?_⟩;obtain⟨h0,h1,h2,h3,h4⟩:=h;have hc:i=0\/i=1\/i=2\/i=3\/i=4:=by omega
 rcases hc with rfl|rfl|rfl|rfl|rfl<;>assumption
theorem y5ab {α:Type} (d:List AV->α) (f:Nat->List AV):decL d 5 f=[d (f 0),d (f 1),d (f 2),d (f 3),d (f 4)]:=rfl
theorem fl6 (p:Nat->Prop):(∀ i,i<6->p i)=(p 0/\p 1/\p 2/\p 3/\p 4/\p 5):=by
 apply propext;refine⟨fun h=>⟨h 0 (by omega),h 1 (by omega),h 2 (by omega),h 3 (by omega),h 4 (by omega),h 5 (by omega)⟩,fun h i hi => ?_⟩;obtain⟨h0,h1,h2,h3,h4,h5⟩:=h;have hc:i=0\/i=1\/i=2\/i=3\/i=4\/i=5:=by omega
 rcases hc with rfl|rfl|rfl|rfl|rfl|rfl<;>assumption
theorem y2bb {α:Type} (d:List AV->α) (f:Nat->List AV):decL d 6 f=[d (f 0),d (f 1),d (f 2),d (f 3),d (f 4),d (f 5)]:=rfl
theorem fl7 (p:Nat->Prop):(∀ i,i<7->p i)=(p 0/\p 1/\p 2/\p 3/\p 4/\p 5/\p 6):=by
 apply propext;refine⟨fun h=>⟨h 0 (by omega),h 1 (by omega),h 2 (by omega),h 3 (by omega),h 4 (by omega),h 5 (by omega),h 6 (by omega)⟩,fun h i hi => ?_⟩;obtain⟨h0,h1,h2,h3,h4,h5,h6⟩:=h;have hc:i=0\/i=1\/i=2\/i=3\/i=4\/i=5\/i=6:=by omega
 rcases hc with rfl|rfl|rfl|rfl|rfl|rfl|rfl<;>assumption
theorem yxbb {α:Type} (d:List AV->α) (f:Nat->List AV):decL d 7 f=[d (f 0),d (f 1),d (f 2),d (f 3),d (f 4),d (f 5),d (f 6)]:=rfl
theorem fl8 (p:Nat->Prop):(∀ i,i<8->p i)=(p 0/\p 1/\p 2/\p 3/\p 4/\p 5/\p 6/\p 7):=by
 apply propext;refine⟨fun h=>⟨h 0 (by omega),h 1 (by omega),h 2 (by omega),h 3 (by omega),h 4 (by omega),h 5 (by omega),h 6 (by omega),h 7 (by omega)⟩,fun h i hi => ?_⟩;obtain⟨h0,h1,h2,h3,h4,h5,h6,h7⟩:=h;have hc:i=0\/i=1\/i=2\/i=3\/i=4\/i=5\/i=6\/i=7:=by omega
 rcases hc with rfl|rfl|rfl|rfl|rfl|rfl|rfl|rfl<;>assumption
theorem ypbb {α:Type} (d:List AV->α) (f:Nat->List AV):decL d 8 f=[d (f 0),d (f 1),d (f 2),d (f 3),d (f 4),d (f 5),d (f 6),d (f 7)]:=rfl
theorem yucb {α:Type} [Inhabited α] (x0 x1:α):subL [x0,x1] 0 2=[x0,x1]:=rfl
theorem yqcb {α:Type} [Inhabited α] (x0 x1 x2:α):subL [x0,x1,x2] 0 3=[x0,x1,x2]:=rfl
theorem yxcb {α:Type} [Inhabited α] (x0 x1 x2 x3:α):subL [x0,x1,x2,x3] 0 4=[x0,x1,x2,x3]:=rfl
theorem yrcb {α:Type} [Inhabited α] (x0 x1 x2 x3 x4:α):subL [x0,x1,x2,x3,x4] 0 5=[x0,x1,x2,x3,x4]:=rfl
theorem yycb {α:Type} [Inhabited α] (x0 x1 x2 x3 x4 x5:α):subL [x0,x1,x2,x3,x4,x5] 0 6=[x0,x1,x2,x3,x4,x5]:=rfl
theorem ypcb {α:Type} [Inhabited α] (x0 x1 x2 x3 x4 x5 x6:α):subL [x0,x1,x2,x3,x4,x5,x6] 0 7=[x0,x1,x2,x3,x4,x5,x6]:=rfl
theorem yzcb {α:Type} [Inhabited α] (x0 x1 x2 x3 x4 x5 x6 x7:α):subL [x0,x1,x2,x3,x4,x5,x6,x7] 0 8=[x0,x1,x2,x3,x4,x5,x6,x7]:=rfl
theorem yscb {α:Type} [Inhabited α] (x0 x1 x2 x3 x4 x5 x6 x7 x8:α):subL [x0,x1,x2,x3,x4,x5,x6,x7,x8] 0 9=[x0,x1,x2,x3,x4,x5,x6,x7,x8]:=rfl
theorem yabb {α:Type} [Inhabited α] (x0 x1 x2 x3 x4 x5 x6 x7 x8 x9:α):subL [x0,x1,x2,x3,x4,x5,x6,x7,x8,x9] 0 10=[x0,x1,x2,x3,x4,x5,x6,x7,x8,x9]:=rfl
theorem ybcb {α:Type} [Inhabited α] (x0 x1 x2 x3 x4 x5 x6 x7 x8 x9 x10:α):subL [x0,x1,x2,x3,x4,x5,x6,x7,x8,x9,x10] 0 11=[x0,x1,x2,x3,x4,x5,x6,x7,x8,x9,x10]:=rfl
theorem yjcb {α:Type} [Inhabited α] (x0 x1 x2 x3 x4 x5 x6 x7 x8 x9 x10 x11:α):subL [x0,x1,x2,x3,x4,x5,x6,x7,x8,x9,x10,x11] 0 12=[x0,x1,x2,x3,x4,x5,x6,x7,x8,x9,x10,x11]:=rfl
theorem yhcb {α:Type} [Inhabited α] (x0 x1 x2 x3 x4 x5 x6 x7 x8 x9 x10 x11 x12:α):subL [x0,x1,x2,x3,x4,x5,x6,x7,x8,x9,x10,x11,x12] 0 13=[x0,x1,x2,x3,x4,x5,x6,x7,x8,x9,x10,x11,x12]:=rfl
theorem ynbb {α:Type} [Inhabited α] (x0 x1 x2 x3 x4 x5 x6 x7 x8 x9 x10 x11 x12 x13:α):subL [x0,x1,x2,x3,x4,x5,x6,x7,x8,x9,x10,x11,x12,x13] 0 14=[x0,x1,x2,x3,x4,x5,x6,x7,x8,x9,x10,x11,x12,x13]:=rfl
abbrev sv:=
 cj @wGO.eq_def <|
 cj @wQ.eq_def <|
 cj @rdQ.eq_def <|
 cj @yk5 <|
 cj @fl1 <|
 cj @fl2 <|
 cj @fl3 <|
 cj @fl4 <|
 cj @ymcb <|
 cj @y7bb <|
 cj @ylbb <|
 cj @y2ab <|
 cj @y4ab <|
 cj @fl5 <|
 cj @fl6 <|
 cj @fl7 <|
 cj @fl8 <|
 cj @y5ab <|
 cj @y2bb <|
 cj @yxbb <|
 cj @ypbb <|
 cj @yucb <|
 cj @yqcb <|
 cj @yxcb <|
 cj @yrcb <|
 cj @yycb <|
 cj @ypcb <|
 cj @yzcb <|
 cj @yscb <|
 cj @yabb <|
 cj @ybcb <|
 cj @yjcb <|
 cj @yhcb <|
 cj @ynbb <|
 cj @eAid.eq_1 <|
 cj @dAid.eq_1 <|
 cj @yd9 <|
 cj @y4b.eq_1 <|
 cj @ypf.eq_1 <|
 cj @y1k.eq_1 <|
 cj @yxz <|
 cj @ygh.eq_1 <|
 cj @yhm.eq_1 <|
 cj @yc4 <|
 cj @yj.eq_1 <|
 cj @yg.eq_1 <|
 cj @yco <|
 cj @y6b.eq_1 <|
 cj @yr.eq_1 <|
 cj @yz.eq_1 <|
 cj @y9y <|
 cj @ye.eq_1 <|
 cj @yc.eq_1 <|
 cj @ylz <|
 cj @y7b.eq_1 <|
 cj @yu.eq_1 <|
 cj @yw.eq_1 <|
 cj @yzy <|
 cj @y54.eq_1 <|
 cj @yx.eq_1 <|
 cj @ynb.eq_1 <|
 cj @ynf <|
 cj @y50 <|
 cj @y11 <|
 cj @eIu8.eq_1 <|
 cj @dIu8.eq_1 <|
 cj @y9h <|
 cj @yf3 <|
 cj @yv3 <|
 cj @eS.eq_1 <|
 cj @dS.eq_1 <|
 cj @yjq <|
 cj @yqbb <|
 cj @y7ab <|
 cj @y2d <|
 cj @ybv <|
 cj @ytt <|
 cj @ymk <|
 cj @yd3 <|
 cj @yp3 <|
 cj @y0l <|
 cj @y0z <|
 cj @yp0 <|
 cj @y3k <|
 cj @yhv <|
 cj @yju <|
 cj @y1q <|
 cj @ywq <| @y3q
abbrev bdv:=
 cj @bdS.eq_1 <| cj @bdMark.eq_1 <| cj @bdLIi64.eq_1 <| cj @bdCharacter.eq_1 <| cj @bdSector.eq_1 <| cj @bdLSector.eq_1 <| cj @bdAid.eq_1 <| cj @bdNotice.eq_1 <| cj @bdLIu8.eq_1 <| cj @bdl00Src.eq_1 <| cj @bwS.eq_1 <| cj @bwMark.eq_1 <| cj @bwLIi64.eq_1 <| cj @bwCharacter.eq_1 <| cj @bwSector.eq_1 <| cj @bwLSector.eq_1 <| cj @bwAid.eq_1 <| cj @bwNotice.eq_1 <| cj @bwLIu8.eq_1 <| cj @bwl00Src.eq_1 <| @Nat.le_refl
structure SrcOk (n:Int) (s:l00Src):Prop where
 lo:0<=s.at_
 hi:s.at_<=n
 by_:∀ v∈s.code,0<=v/\v<=255
theorem SrcOk.mono {n m:Int} {s:l00Src} (h:SrcOk n s) (hm:n<=m):SrcOk m s:=⟨h.lo,Int.le_trans h.hi hm,h.by_⟩
end Go.Ab
