/- A part of a proof: walks of functions and lemmas of our own. No conditions. -/
import Derived.Test.YtcaopagmcldjmaaGreatDoorAAk
import Derived.Test.YtcaopagmcldjmaaGreatDoorAAh
import Derived.KernelRfl
import Derived.Lib.LaidTab
import Derived.Lib.Fields
import Derived.Lib.ItoaNum
import Derived.Test.YtcaopagmcldjmaaGreatDoorProg
set_option linter.unusedSectionVars false
set_option linter.unusedVariables false
set_option linter.unusedSimpArgs false
set_option maxHeartbeats 1000000
namespace Go.Ab
open Go Go.Proofs
def tn0:String:= "internal/strconv.uint64pow10"
def tn1:String:= "strings.asciiSpace"
def ycp (w:World):Prop:=(Go.Lib.TabIs Tryz.prog w tn0 .u64 Go.Lib.pow10Tab/\∃ m,w.cell? ⟨1,0,none⟩=some (.int .i64 m))/\(∃ te pe,w.cell? ⟨3,0,none⟩=some (.iface te pe))/\(∃ te pe,w.cell? ⟨4,0,none⟩=some (.iface te pe))/\Go.Lib.TabIs Tryz.prog w tn1 .u8 Go.Lib.asciiSpaceTab
theorem g0:Tryz.prog.globalNamed tn0=some 0:=by kernel_rfl
theorem g1:Tryz.prog.globalNamed tn1=some 2:=by kernel_rfl
theorem yuv {w:World} (h:ycp w):4<w.heap.size:=by
 obtain⟨te,pe,h⟩:=h.2.2.1;by_cases hl:4<w.heap.size
 ·exact hl
 ·have h5:w.heap[4]? = none:=Array.getElem?_eq_none (by omega)
  unfold World.cell? at h;simp[h5]at h
theorem ywh {w w':World} {b:Nat} (h:w'.heap[b]? = w.heap[b]?):w'.cell? ⟨b,0,none⟩=w.cell? ⟨b,0,none⟩:=by
 unfold World.cell?;simp only[h]
instance inv0:Inv:=⟨ycp,fun b=>b<=4,fun w h b hb=>by have:=yuv h;omega,fun w w' h ho hb=>by
  obtain⟨⟨h1,h2⟩,h3,h4,h5⟩:=h;refine⟨⟨?_,by rw[ywh (hb 1 (by omega))];exact h2⟩,by rw[ywh (hb 3 (by omega))];exact h3,by rw[ywh (hb 4 (by omega))];exact h4,?_⟩
  ·unfold Go.Lib.TabIs World.var? at h1 ⊢
   rw[g0]at h1 ⊢;simp only[Option.bind_some]at h1 ⊢;rw[hb 0 (by omega)];exact h1
  ·unfold Go.Lib.TabIs World.var? at h5 ⊢
   rw[g1]at h5 ⊢;simp only[Option.bind_some]at h5 ⊢;rw[hb 2 (by omega)]
   exact h5⟩
def wGO {α : Type} (e : α -> List AV) (d : List AV -> α) : AV -> Prop
 | .agg cs=>simOL cs (e (d cs))
 | _=>False
theorem y7y {α:Type} [Inhabited α] {e:α->List AV} {d:List AV->α} {a:AV} (h:wGO e d a):simO a (.agg (e (rdG d a))):=by
 cases a<;>simp_all[wGO,rdG,simO]
def rdQ {α : Type} [Inhabited α] (d : List AV -> α) : AV -> α
 | .op cs=>d cs
 | _=>default
def wQ {α : Type} (e : α -> List AV) (d : List AV -> α) : AV -> Prop
 | .op cs=>cs=e (d cs)\/simOL cs (e (d cs))
 | _=>False
theorem yt4 {α:Type} [Inhabited α] {e:α->List AV} {d:List AV->α} {a:AV} (h:wQ e d a):simO a (.op (e (rdQ d a))):=by
 cases a with
 | op cs=>
  simp only[wQ]at h;simp only[rdQ,simO];rcases h with h|h
  ·rw[<- h];exact yt _
  ·exact h
 | _=>simp[wQ]at h
def G:Env:=[(2,⟨.int .i64,1,8,[.int .i64 0],true⟩),
 (3,⟨.int .i64,1,8,[.int .i64 0],true⟩),
 (4,⟨.bool,1,1,[.bool false],true⟩),
 (5,⟨.int .u8,1,1,[.int .u8 0],true⟩),
 (9,⟨.string,1,16,[.str []],true⟩),
 (21,⟨.int .i32,1,4,[.int .i32 0],true⟩),
 (22,⟨.slice 5,1,24,[.nils],true⟩),
 (24,⟨.slice 38,1,24,[.nils],true⟩),
 (32,⟨.slice 2,1,24,[.nils],true⟩),
 (38,⟨.struct [(0,9),(1,9)] true,2,32,[.str [],.str []],true⟩),
 (39,⟨.slice 69,1,24,[.nils],true⟩),
 (62,⟨.struct [(0,2),(1,2)] true,2,16,[.int .i64 0,.int .i64 0],true⟩),
 (64,⟨.struct [(0,2),(1,9),(2,9),(3,9)] true,4,56,[.int .i64 0,.str [],.str [],.str []],true⟩),
 (66,⟨.struct [(0,2),(1,32),(2,9),(3,9),(4,2)] true,5,72,[.int .i64 0,.nils,.str [],.str [],.int .i64 0],true⟩),
 (67,⟨.slice 117,1,24,[.nils],true⟩),
 (69,⟨.struct [(0,2),(1,9),(2,62),(4,2),(5,64),(9,66),(14,67),(15,2)] true,16,208,[.int .i64 0,.str [],.int .i64 0,.int .i64 0,.int .i64 0,.int .i64 0,.str [],.str [],.str [],.int .i64 0,.nils,.str [],.str [],.int .i64 0,.nils,.int .i64 0],true⟩),
 (78,⟨.int .u64,1,8,[.int .u64 0],true⟩),
 (80,⟨.struct [(0,22),(1,3),(2,78)] true,3,40,[.nils,.int .i64 0,.int .u64 0],true⟩),
 (83,⟨.slice 9,1,24,[.nils],true⟩),
 (105,⟨.array 7 4,7,7,[.bool false,.bool false,.bool false,.bool false,.bool false,.bool false,.bool false],true⟩),
 (117,⟨.struct [(0,2),(1,2),(2,9)] true,3,32,[.int .i64 0,.int .i64 0,.str []],true⟩),
 (217,⟨.array 26 9,26,416,[.str [],.str [],.str [],.str [],.str [],.str [],.str [],.str [],.str [],.str [],.str [],.str [],.str [],.str [],.str [],.str [],.str [],.str [],.str [],.str [],.str [],.str [],.str [],.str [],.str [],.str []],true⟩)]
theorem G_ok:TyOk Tryz.prog G:=by unfold TyOk;kernel_rfl
theorem gv:tget G 2=some ⟨.int .i64,1,8,[.int .i64 0],true⟩ /\
 tget G 3=some ⟨.int .i64,1,8,[.int .i64 0],true⟩ /\
 tget G 4=some ⟨.bool,1,1,[.bool false],true⟩ /\
 tget G 5=some ⟨.int .u8,1,1,[.int .u8 0],true⟩ /\
 tget G 9=some ⟨.string,1,16,[.str []],true⟩ /\
 tget G 21=some ⟨.int .i32,1,4,[.int .i32 0],true⟩ /\
 tget G 22=some ⟨.slice 5,1,24,[.nils],true⟩ /\
 tget G 24=some ⟨.slice 38,1,24,[.nils],true⟩ /\
 tget G 32=some ⟨.slice 2,1,24,[.nils],true⟩ /\
 tget G 38=some ⟨.struct [(0,9),(1,9)] true,2,32,[.str [],.str []],true⟩ /\
 tget G 39=some ⟨.slice 69,1,24,[.nils],true⟩ /\
 tget G 62=some ⟨.struct [(0,2),(1,2)] true,2,16,[.int .i64 0,.int .i64 0],true⟩ /\
 tget G 64=some ⟨.struct [(0,2),(1,9),(2,9),(3,9)] true,4,56,[.int .i64 0,.str [],.str [],.str []],true⟩ /\
 tget G 66=some ⟨.struct [(0,2),(1,32),(2,9),(3,9),(4,2)] true,5,72,[.int .i64 0,.nils,.str [],.str [],.int .i64 0],true⟩ /\
 tget G 67=some ⟨.slice 117,1,24,[.nils],true⟩ /\
 tget G 69=some ⟨.struct [(0,2),(1,9),(2,62),(4,2),(5,64),(9,66),(14,67),(15,2)] true,16,208,[.int .i64 0,.str [],.int .i64 0,.int .i64 0,.int .i64 0,.int .i64 0,.str [],.str [],.str [],.int .i64 0,.nils,.str [],.str [],.int .i64 0,.nils,.int .i64 0],true⟩ /\
 tget G 78=some ⟨.int .u64,1,8,[.int .u64 0],true⟩ /\
 tget G 80=some ⟨.struct [(0,22),(1,3),(2,78)] true,3,40,[.nils,.int .i64 0,.int .u64 0],true⟩ /\
 tget G 83=some ⟨.slice 9,1,24,[.nils],true⟩ /\
 tget G 105=some ⟨.array 7 4,7,7,[.bool false,.bool false,.bool false,.bool false,.bool false,.bool false,.bool false],true⟩ /\
 tget G 117=some ⟨.struct [(0,2),(1,2),(2,9)] true,3,32,[.int .i64 0,.int .i64 0,.str []],true⟩ /\
 tget G 217=some ⟨.array 26 9,26,416,[.str [],.str [],.str [],.str [],.str [],.str [],.str [],.str [],.str [],.str [],.str [],.str [],.str [],.str [],.str [],.str [],.str [],.str [],.str [],.str [],.str [],.str [],.str [],.str [],.str [],.str []],true⟩:=by
 and_intros<;>rfl
theorem mixed:Tryz.prog.follows .mixedOrders=true:=by kernel_rfl
def yv (v:Int):List AV:=[.int .i64 v]
def yhb : List AV -> Int
 | [c]=>rdI c
 | _=>default
def eIu8 (v:Int):List AV:=[.int .u8 v]
def dIu8 : List AV -> Int
 | [c]=>rdI c
 | _=>default
def eS (v:(List UInt8)):List AV:=[.str v]
def dS : List AV -> (List UInt8)
 | [c]=>rdS c
 | _=>default
structure Item where
 Key:(List UInt8)
 Text:(List UInt8)
 deriving Inhabited,DecidableEq
def yr (v:Item):List AV:=[.str v.Key,.str v.Text]
def yp : List AV -> Item
 | c0::c1::_=>⟨rdS c0,rdS c1⟩
 | _=>default
theorem y9t (v:Item):Item.mk v.Key v.Text=v:=rfl
structure Point where
 X:Int
 Y:Int
 deriving Inhabited,DecidableEq
def ytf (v:Point):List AV:=[.int .i64 v.X,.int .i64 v.Y]
def yom : List AV -> Point
 | c0::c1::_=>⟨rdI c0,rdI c1⟩
 | _=>default
theorem yar (v:Point):Point.mk v.X v.Y=v:=rfl
structure Mark where
 Kind:Int
 Colors:(List UInt8)
 Shape:(List UInt8)
 Topmark:(List UInt8)
 deriving Inhabited,DecidableEq
def yqk (v:Mark):List AV:=[.int .i64 v.Kind,.str v.Colors,.str v.Shape,.str v.Topmark]
def yno : List AV -> Mark
 | c0::c1::c2::c3::_=>⟨rdI c0,rdS c1,rdS c2,rdS c3⟩
 | _=>default
theorem ydv (v:Mark):Mark.mk v.Kind v.Colors v.Shape v.Topmark=v:=rfl
structure Character where
 Kind:Int
 Group:(List Int)
 Letter:(List UInt8)
 Colors:(List UInt8)
 Period:Int
 deriving Inhabited,DecidableEq
def yq (v:Character):List AV:=[.int .i64 v.Kind,encL 1 yv v.Group,.str v.Letter,.str v.Colors,.int .i64 v.Period]
def ypb (v:Character):List AV:=[.int .i64 v.Kind,ownL 2 1 yv v.Group,.str v.Letter,.str v.Colors,.int .i64 v.Period]
def ye : List AV -> Character
 | c0::c1::c2::c3::c4::_=>⟨rdI c0,rdL yhb c1,rdS c2,rdS c3,rdI c4⟩
 | _=>default
theorem y0g (v:Character):Character.mk v.Kind v.Group v.Letter v.Colors v.Period=v:=rfl
structure Sector where
 From:Int
 To:Int
 Color:(List UInt8)
 deriving Inhabited,DecidableEq
def yx (v:Sector):List AV:=[.int .i64 v.From,.int .i64 v.To,.str v.Color]
def yab : List AV -> Sector
 | c0::c1::c2::_=>⟨rdI c0,rdI c1,rdS c2⟩
 | _=>default
theorem yll (v:Sector):Sector.mk v.From v.To v.Color=v:=rfl
structure Aid where
 Number:Int
 Name:(List UInt8)
 At:Point
 Height:Int
 Mark:Mark
 Light:Character
 Sectors:(List Sector)
 Intensity:Int
 deriving Inhabited,DecidableEq
def eAid (v:Aid):List AV:=[.int .i64 v.Number,.str v.Name,.int .i64 v.At.X,.int .i64 v.At.Y,.int .i64 v.Height,.int .i64 v.Mark.Kind,.str v.Mark.Colors,.str v.Mark.Shape,.str v.Mark.Topmark,.int .i64 v.Light.Kind,encL 1 yv v.Light.Group,.str v.Light.Letter,.str v.Light.Colors,.int .i64 v.Light.Period,encL 3 yx v.Sectors,.int .i64 v.Intensity]
def yud (v:Aid):List AV:=[.int .i64 v.Number,.str v.Name,.int .i64 v.At.X,.int .i64 v.At.Y,.int .i64 v.Height,.int .i64 v.Mark.Kind,.str v.Mark.Colors,.str v.Mark.Shape,.str v.Mark.Topmark,.int .i64 v.Light.Kind,ownL 2 1 yv v.Light.Group,.str v.Light.Letter,.str v.Light.Colors,.int .i64 v.Light.Period,ownL 117 3 yx v.Sectors,.int .i64 v.Intensity]
def dAid : List AV -> Aid
 | c0::c1::c2::c3::c4::c5::c6::c7::c8::c9::c10::c11::c12::c13::c14::c15::_=>⟨rdI c0,rdS c1,⟨rdI c2,rdI c3⟩,rdI c4,⟨rdI c5,rdS c6,rdS c7,rdS c8⟩,⟨rdI c9,rdL yhb c10,rdS c11,rdS c12,rdI c13⟩,rdL yab c14,rdI c15⟩
 | _=>default
theorem yky (v:Aid):Aid.mk v.Number v.Name v.At v.Height v.Mark v.Light v.Sectors v.Intensity=v:=rfl
structure l00Src where
 code:(List Int)
 at_:Int
 seed:Int
 deriving Inhabited,DecidableEq
def ym (v:l00Src):List AV:=[encL 1 eIu8 v.code,.int .i64 v.at_,.int .u64 v.seed]
def y8s (v:l00Src):List AV:=[ownL 5 1 eIu8 v.code,.int .i64 v.at_,.int .u64 v.seed]
def yn : List AV -> l00Src
 | c0::c1::c2::_=>⟨rdL dIu8 c0,rdI c1,rdI c2⟩
 | _=>default
theorem yxl (v:l00Src):l00Src.mk v.code v.at_ v.seed=v:=rfl
theorem y1g (l:List Int):decL yhb l.length (fun i=>[.int .i64 (l.getD i default)])=l:=ylc l
theorem y3o (l:List Int) (lo n:Nat):decL yhb n (fun i=>[.int .i64 (l.getD (lo+i) default)])=subL l lo n:=rfl
theorem yuq (l:List Int) (n:Nat):decL yhb n (fun i=>[.int .i64 (l.getD i default)])=subL l 0 n:=by simp only[subL,Nat.zero_add];rfl
theorem yvg (l:List Item):decL yp l.length (fun i=>[.str ((l.getD i default).Key),.str ((l.getD i default).Text)])=l:=ylc l
theorem yoq (l:List Item) (lo n:Nat):decL yp n (fun i=>[.str ((l.getD (lo+i) default).Key),.str ((l.getD (lo+i) default).Text)])=subL l lo n:=rfl
theorem yjr (l:List Item) (n:Nat):decL yp n (fun i=>[.str ((l.getD i default).Key),.str ((l.getD i default).Text)])=subL l 0 n:=by simp only[subL,Nat.zero_add];rfl
theorem y1i (l:List Int):decL dIu8 l.length (fun i=>[.int .u8 (l.getD i default)])=l:=ylc l
theorem y3t (l:List Int) (lo n:Nat):decL dIu8 n (fun i=>[.int .u8 (l.getD (lo+i) default)])=subL l lo n:=rfl
theorem yfv (l:List Int) (n:Nat):decL dIu8 n (fun i=>[.int .u8 (l.getD i default)])=subL l 0 n:=by simp only[subL,Nat.zero_add];rfl
theorem yvu (l:List (List UInt8)):decL dS l.length (fun i=>[.str (l.getD i default)])=l:=ylc l
theorem y13 (l:List (List UInt8)) (lo n:Nat):decL dS n (fun i=>[.str (l.getD (lo+i) default)])=subL l lo n:=rfl
theorem yr4 (l:List (List UInt8)) (n:Nat):decL dS n (fun i=>[.str (l.getD i default)])=subL l 0 n:=by simp only[subL,Nat.zero_add];rfl
theorem yje (l:List Sector):decL yab l.length (fun i=>[.int .i64 ((l.getD i default).From),.int .i64 ((l.getD i default).To),.str ((l.getD i default).Color)])=l:=ylc l
theorem yfk (l:List Sector) (lo n:Nat):decL yab n (fun i=>[.int .i64 ((l.getD (lo+i) default).From),.int .i64 ((l.getD (lo+i) default).To),.str ((l.getD (lo+i) default).Color)])=subL l lo n:=rfl
theorem ynk (l:List Sector) (n:Nat):decL yab n (fun i=>[.int .i64 ((l.getD i default).From),.int .i64 ((l.getD i default).To),.str ((l.getD i default).Color)])=subL l 0 n:=by simp only[subL,Nat.zero_add];rfl
theorem ycs (v:Aid):dAid [.int .i64 v.Number,.str v.Name,.int .i64 v.At.X,.int .i64 v.At.Y,.int .i64 v.Height,.int .i64 v.Mark.Kind,.str v.Mark.Colors,.str v.Mark.Shape,.str v.Mark.Topmark,.int .i64 v.Light.Kind,.sl none 1 v.Light.Group.length (fun j=>[.int .i64 (v.Light.Group.getD j default)]),.str v.Light.Letter,.str v.Light.Colors,.int .i64 v.Light.Period,.sl none 3 v.Sectors.length (fun j=>[.int .i64 ((v.Sectors.getD j default).From),.int .i64 ((v.Sectors.getD j default).To),.str ((v.Sectors.getD j default).Color)]),.int .i64 v.Intensity]=v:=by simp only[dAid,rdI,rdB,rdS,rdL,y1g,yvg,y1i,yvu,yje]
theorem ysn (l:List Aid):decL dAid l.length (fun i=>[.int .i64 ((l.getD i default).Number),.str ((l.getD i default).Name),.int .i64 (((l.getD i default).At).X),.int .i64 (((l.getD i default).At).Y),.int .i64 ((l.getD i default).Height),.int .i64 (((l.getD i default).Mark).Kind),.str (((l.getD i default).Mark).Colors),.str (((l.getD i default).Mark).Shape),.str (((l.getD i default).Mark).Topmark),.int .i64 (((l.getD i default).Light).Kind),.sl none 1 (((l.getD i default).Light).Group).length (fun j=>[.int .i64 ((((l.getD i default).Light).Group).getD j default)]),.str (((l.getD i default).Light).Letter),.str (((l.getD i default).Light).Colors),.int .i64 (((l.getD i default).Light).Period),.sl none 3 ((l.getD i default).Sectors).length (fun j=>[.int .i64 ((((l.getD i default).Sectors).getD j default).From),.int .i64 ((((l.getD i default).Sectors).getD j default).To),.str ((((l.getD i default).Sectors).getD j default).Color)]),.int .i64 ((l.getD i default).Intensity)])=l:=(List.map_congr_left fun i _=>ycs (l.getD i default)).trans (ylc l)
theorem ypu (l:List Aid) (lo n:Nat):decL dAid n (fun i=>[.int .i64 ((l.getD (lo+i) default).Number),.str ((l.getD (lo+i) default).Name),.int .i64 (((l.getD (lo+i) default).At).X),.int .i64 (((l.getD (lo+i) default).At).Y),.int .i64 ((l.getD (lo+i) default).Height),.int .i64 (((l.getD (lo+i) default).Mark).Kind),.str (((l.getD (lo+i) default).Mark).Colors),.str (((l.getD (lo+i) default).Mark).Shape),.str (((l.getD (lo+i) default).Mark).Topmark),.int .i64 (((l.getD (lo+i) default).Light).Kind),.sl none 1 (((l.getD (lo+i) default).Light).Group).length (fun j=>[.int .i64 ((((l.getD (lo+i) default).Light).Group).getD j default)]),.str (((l.getD (lo+i) default).Light).Letter),.str (((l.getD (lo+i) default).Light).Colors),.int .i64 (((l.getD (lo+i) default).Light).Period),.sl none 3 ((l.getD (lo+i) default).Sectors).length (fun j=>[.int .i64 ((((l.getD (lo+i) default).Sectors).getD j default).From),.int .i64 ((((l.getD (lo+i) default).Sectors).getD j default).To),.str ((((l.getD (lo+i) default).Sectors).getD j default).Color)]),.int .i64 ((l.getD (lo+i) default).Intensity)])=subL l lo n:=List.map_congr_left fun i _=>ycs (l.getD (lo+i) default)
theorem yuu (l:List Aid) (n:Nat):decL dAid n (fun i=>[.int .i64 ((l.getD i default).Number),.str ((l.getD i default).Name),.int .i64 (((l.getD i default).At).X),.int .i64 (((l.getD i default).At).Y),.int .i64 ((l.getD i default).Height),.int .i64 (((l.getD i default).Mark).Kind),.str (((l.getD i default).Mark).Colors),.str (((l.getD i default).Mark).Shape),.str (((l.getD i default).Mark).Topmark),.int .i64 (((l.getD i default).Light).Kind),.sl none 1 (((l.getD i default).Light).Group).length (fun j=>[.int .i64 ((((l.getD i default).Light).Group).getD j default)]),.str (((l.getD i default).Light).Letter),.str (((l.getD i default).Light).Colors),.int .i64 (((l.getD i default).Light).Period),.sl none 3 ((l.getD i default).Sectors).length (fun j=>[.int .i64 ((((l.getD i default).Sectors).getD j default).From),.int .i64 ((((l.getD i default).Sectors).getD j default).To),.str ((((l.getD i default).Sectors).getD j default).Color)]),.int .i64 ((l.getD i default).Intensity)])=subL l 0 n:=by simp only[subL,Nat.zero_add];exact List.map_congr_left fun i _=>ycs (l.getD i default)
theorem y7m (v:Aid):dAid [.int .i64 v.Number,.str v.Name,.int .i64 v.At.X,.int .i64 v.At.Y,.int .i64 v.Height,.int .i64 v.Mark.Kind,.str v.Mark.Colors,.str v.Mark.Shape,.str v.Mark.Topmark,.int .i64 v.Light.Kind,.sl (some 2) 1 v.Light.Group.length (fun j=>[.int .i64 (v.Light.Group.getD j default)]),.str v.Light.Letter,.str v.Light.Colors,.int .i64 v.Light.Period,.sl (some 117) 3 v.Sectors.length (fun j=>[.int .i64 ((v.Sectors.getD j default).From),.int .i64 ((v.Sectors.getD j default).To),.str ((v.Sectors.getD j default).Color)]),.int .i64 v.Intensity]=v:=by simp only[dAid,rdI,rdB,rdS,rdL,y1g,yvg,y1i,yvu,yje,ysn]
theorem ykr (l:List Aid):decL dAid l.length (fun i=>[.int .i64 ((l.getD i default).Number),.str ((l.getD i default).Name),.int .i64 (((l.getD i default).At).X),.int .i64 (((l.getD i default).At).Y),.int .i64 ((l.getD i default).Height),.int .i64 (((l.getD i default).Mark).Kind),.str (((l.getD i default).Mark).Colors),.str (((l.getD i default).Mark).Shape),.str (((l.getD i default).Mark).Topmark),.int .i64 (((l.getD i default).Light).Kind),.sl (some 2) 1 (((l.getD i default).Light).Group).length (fun j=>[.int .i64 ((((l.getD i default).Light).Group).getD j default)]),.str (((l.getD i default).Light).Letter),.str (((l.getD i default).Light).Colors),.int .i64 (((l.getD i default).Light).Period),.sl (some 117) 3 ((l.getD i default).Sectors).length (fun j=>[.int .i64 ((((l.getD i default).Sectors).getD j default).From),.int .i64 ((((l.getD i default).Sectors).getD j default).To),.str ((((l.getD i default).Sectors).getD j default).Color)]),.int .i64 ((l.getD i default).Intensity)])=l:=(List.map_congr_left fun i _=>y7m (l.getD i default)).trans (ylc l)
theorem ylo (l:List Aid) (lo n:Nat):decL dAid n (fun i=>[.int .i64 ((l.getD (lo+i) default).Number),.str ((l.getD (lo+i) default).Name),.int .i64 (((l.getD (lo+i) default).At).X),.int .i64 (((l.getD (lo+i) default).At).Y),.int .i64 ((l.getD (lo+i) default).Height),.int .i64 (((l.getD (lo+i) default).Mark).Kind),.str (((l.getD (lo+i) default).Mark).Colors),.str (((l.getD (lo+i) default).Mark).Shape),.str (((l.getD (lo+i) default).Mark).Topmark),.int .i64 (((l.getD (lo+i) default).Light).Kind),.sl (some 2) 1 (((l.getD (lo+i) default).Light).Group).length (fun j=>[.int .i64 ((((l.getD (lo+i) default).Light).Group).getD j default)]),.str (((l.getD (lo+i) default).Light).Letter),.str (((l.getD (lo+i) default).Light).Colors),.int .i64 (((l.getD (lo+i) default).Light).Period),.sl (some 117) 3 ((l.getD (lo+i) default).Sectors).length (fun j=>[.int .i64 ((((l.getD (lo+i) default).Sectors).getD j default).From),.int .i64 ((((l.getD (lo+i) default).Sectors).getD j default).To),.str ((((l.getD (lo+i) default).Sectors).getD j default).Color)]),.int .i64 ((l.getD (lo+i) default).Intensity)])=subL l lo n:=List.map_congr_left fun i _=>y7m (l.getD (lo+i) default)
theorem yrq (l:List Aid) (n:Nat):decL dAid n (fun i=>[.int .i64 ((l.getD i default).Number),.str ((l.getD i default).Name),.int .i64 (((l.getD i default).At).X),.int .i64 (((l.getD i default).At).Y),.int .i64 ((l.getD i default).Height),.int .i64 (((l.getD i default).Mark).Kind),.str (((l.getD i default).Mark).Colors),.str (((l.getD i default).Mark).Shape),.str (((l.getD i default).Mark).Topmark),.int .i64 (((l.getD i default).Light).Kind),.sl (some 2) 1 (((l.getD i default).Light).Group).length (fun j=>[.int .i64 ((((l.getD i default).Light).Group).getD j default)]),.str (((l.getD i default).Light).Letter),.str (((l.getD i default).Light).Colors),.int .i64 (((l.getD i default).Light).Period),.sl (some 117) 3 ((l.getD i default).Sectors).length (fun j=>[.int .i64 ((((l.getD i default).Sectors).getD j default).From),.int .i64 ((((l.getD i default).Sectors).getD j default).To),.str ((((l.getD i default).Sectors).getD j default).Color)]),.int .i64 ((l.getD i default).Intensity)])=subL l 0 n:=by simp only[subL,Nat.zero_add];exact List.map_congr_left fun i _=>y7m (l.getD i default)
def bdS (v:List UInt8):Prop:=v.length<1099511627776
instance:DecidablePred bdS:=fun v=>inferInstanceAs (Decidable (v.length<1099511627776))
def bdItem (v:Item):Prop:=bdS v.Key/\bdS v.Text
instance:DecidablePred bdItem:=fun v=>by unfold bdItem;infer_instance
def bdMark (v:Mark):Prop:=bdS v.Colors/\bdS v.Shape/\bdS v.Topmark
instance:DecidablePred bdMark:=fun v=>by unfold bdMark;infer_instance
def bdLIi64 (v:(List Int)):Prop:=v.length<1099511627776
instance:DecidablePred bdLIi64:=fun v=>by unfold bdLIi64;infer_instance
def bdCharacter (v:Character):Prop:=bdLIi64 v.Group/\bdS v.Letter/\bdS v.Colors
instance:DecidablePred bdCharacter:=fun v=>by unfold bdCharacter;infer_instance
def bdSector (v:Sector):Prop:=bdS v.Color
instance:DecidablePred bdSector:=fun v=>by unfold bdSector;infer_instance
def bdLSector (v:(List Sector)):Prop:=v.length<1099511627776/\∀ x∈v,bdSector x
instance:DecidablePred bdLSector:=fun v=>by unfold bdLSector;infer_instance
def bdAid (v:Aid):Prop:=bdS v.Name/\bdMark v.Mark/\bdCharacter v.Light/\bdLSector v.Sectors
instance:DecidablePred bdAid:=fun v=>by unfold bdAid;infer_instance
def bdLIu8 (v:(List Int)):Prop:=v.length<1099511627776
instance:DecidablePred bdLIu8:=fun v=>by unfold bdLIu8;infer_instance
def bdl00Src (v:l00Src):Prop:=bdLIu8 v.code
instance:DecidablePred bdl00Src:=fun v=>by unfold bdl00Src;infer_instance
def bwS (v:List UInt8):Prop:=v.length<9223372036854775808
instance:DecidablePred bwS:=fun v=>inferInstanceAs (Decidable (v.length<9223372036854775808))
def bwItem (v:Item):Prop:=bwS v.Key/\bwS v.Text
instance:DecidablePred bwItem:=fun v=>by unfold bwItem;infer_instance
def bwMark (v:Mark):Prop:=bwS v.Colors/\bwS v.Shape/\bwS v.Topmark
instance:DecidablePred bwMark:=fun v=>by unfold bwMark;infer_instance
def bwLIi64 (v:(List Int)):Prop:=v.length<9223372036854775808
instance:DecidablePred bwLIi64:=fun v=>by unfold bwLIi64;infer_instance
def bwCharacter (v:Character):Prop:=bwLIi64 v.Group/\bwS v.Letter/\bwS v.Colors
instance:DecidablePred bwCharacter:=fun v=>by unfold bwCharacter;infer_instance
def bwSector (v:Sector):Prop:=bwS v.Color
instance:DecidablePred bwSector:=fun v=>by unfold bwSector;infer_instance
def bwLSector (v:(List Sector)):Prop:=v.length<9223372036854775808/\∀ x∈v,bwSector x
instance:DecidablePred bwLSector:=fun v=>by unfold bwLSector;infer_instance
def bwAid (v:Aid):Prop:=bwS v.Name/\bwMark v.Mark/\bwCharacter v.Light/\bwLSector v.Sectors
instance:DecidablePred bwAid:=fun v=>by unfold bwAid;infer_instance
def bwLIu8 (v:(List Int)):Prop:=v.length<9223372036854775808
instance:DecidablePred bwLIu8:=fun v=>by unfold bwLIu8;infer_instance
def bwl00Src (v:l00Src):Prop:=bwLIu8 v.code
instance:DecidablePred bwl00Src:=fun v=>by unfold bwl00Src;infer_instance
theorem yjv (v:List UInt8) (h:y4c [.str v]):bwS v:=Nat.lt_succ_of_le h.1
theorem y6 (v:Item) (h:y4c (yr v)):bwItem v:=⟨Nat.lt_succ_of_le h.1,Nat.lt_succ_of_le h.2.1⟩
theorem y4p (v:Mark) (h:y4c (yqk v)):bwMark v:=⟨Nat.lt_succ_of_le h.2.1,Nat.lt_succ_of_le h.2.2.1,Nat.lt_succ_of_le h.2.2.2.1⟩
theorem yz (v:Character) (h:y4c (yq v)):bwCharacter v:=⟨Nat.lt_succ_of_le (yc h.2.1).1,Nat.lt_succ_of_le h.2.2.1,Nat.lt_succ_of_le h.2.2.2.1⟩
theorem yob (v:Sector) (h:y4c (yx v)):bwSector v:=Nat.lt_succ_of_le h.2.2.1
theorem ylb (v:Aid) (h:y4c (eAid v)):bwAid v:=⟨Nat.lt_succ_of_le h.2.1,⟨Nat.lt_succ_of_le h.2.2.2.2.2.2.1,Nat.lt_succ_of_le h.2.2.2.2.2.2.2.1,Nat.lt_succ_of_le h.2.2.2.2.2.2.2.2.1⟩,⟨Nat.lt_succ_of_le (yc h.2.2.2.2.2.2.2.2.2.2.1).1,Nat.lt_succ_of_le h.2.2.2.2.2.2.2.2.2.2.2.1,Nat.lt_succ_of_le h.2.2.2.2.2.2.2.2.2.2.2.2.1⟩,⟨Nat.lt_succ_of_le (yc h.2.2.2.2.2.2.2.2.2.2.2.2.2.2.1).1,fun y hy=>yob y ((yc h.2.2.2.2.2.2.2.2.2.2.2.2.2.2.1).2 y hy)⟩⟩
theorem y7 (v:l00Src) (h:y4c (ym v)):bwl00Src v:=Nat.lt_succ_of_le (yc h.1).1
theorem fl5 (p:Nat->Prop):(∀ i,i<5->p i)=(p 0/\p 1/\p 2/\p 3/\p 4):=by
 apply propext;refine⟨fun h=>⟨h 0 (by omega),h 1 (by omega),h 2 (by omega),h 3 (by omega),h 4 (by omega)⟩,fun h i hi => ?_⟩;obtain⟨h0,h1,h2,h3,h4⟩:=h;have hc:i=0\/i=1\/i=2\/i=3\/i=4:=by omega
 rcases hc with rfl|rfl|rfl|rfl|rfl<;>assumption
theorem yu4 {α:Type} (d:List AV->α) (f:Nat->List AV):decL d 5 f=[d (f 0),d (f 1),d (f 2),d (f 3),d (f 4)]:=rfl
theorem fl6 (p:Nat->Prop):(∀ i,i<6->p i)=(p 0/\p 1/\p 2/\p 3/\p 4/\p 5):=by
 apply propext;refine⟨fun h=>⟨h 0 (by omega),h 1 (by omega),h 2 (by omega),h 3 (by omega),h 4 (by omega),h 5 (by omega)⟩,fun h i hi => ?_⟩;obtain⟨h0,h1,h2,h3,h4,h5⟩:=h;have hc:i=0\/i=1\/i=2\/i=3\/i=4\/i=5:=by omega
 rcases hc with rfl|rfl|rfl|rfl|rfl|rfl<;>assumption
theorem yg4 {α:Type} (d:List AV->α) (f:Nat->List AV):decL d 6 f=[d (f 0),d (f 1),d (f 2),d (f 3),d (f 4),d (f 5)]:=rfl
theorem fl7 (p:Nat->Prop):(∀ i,i<7->p i)=(p 0/\p 1/\p 2/\p 3/\p 4/\p 5/\p 6):=by
 apply propext;refine⟨fun h=>⟨h 0 (by omega),h 1 (by omega),h 2 (by omega),h 3 (by omega),h 4 (by omega),h 5 (by omega),h 6 (by omega)⟩,fun h i hi => ?_⟩;obtain⟨h0,h1,h2,h3,h4,h5,h6⟩:=h;have hc:i=0\/i=1\/i=2\/i=3\/i=4\/i=5\/i=6:=by omega
 rcases hc with rfl|rfl|rfl|rfl|rfl|rfl|rfl<;>assumption
theorem y43 {α:Type} (d:List AV->α) (f:Nat->List AV):decL d 7 f=[d (f 0),d (f 1),d (f 2),d (f 3),d (f 4),d (f 5),d (f 6)]:=rfl
theorem fl8 (p:Nat->Prop):(∀ i,i<8->p i)=(p 0/\p 1/\p 2/\p 3/\p 4/\p 5/\p 6/\p 7):=by
 apply propext;refine⟨fun h=>⟨h 0 (by omega),h 1 (by omega),h 2 (by omega),h 3 (by omega),h 4 (by omega),h 5 (by omega),h 6 (by omega),h 7 (by omega)⟩,fun h i hi => ?_⟩;obtain⟨h0,h1,h2,h3,h4,h5,h6,h7⟩:=h;have hc:i=0\/i=1\/i=2\/i=3\/i=4\/i=5\/i=6\/i=7:=by omega
 rcases hc with rfl|rfl|rfl|rfl|rfl|rfl|rfl|rfl<;>assumption
theorem y53 {α:Type} (d:List AV->α) (f:Nat->List AV):decL d 8 f=[d (f 0),d (f 1),d (f 2),d (f 3),d (f 4),d (f 5),d (f 6),d (f 7)]:=rfl
theorem y96 {α:Type} [Inhabited α] (x0 x1:α):subL [x0,x1] 0 2=[x0,x1]:=rfl
theorem y46 {α:Type} [Inhabited α] (x0 x1 x2:α):subL [x0,x1,x2] 0 3=[x0,x1,x2]:=rfl
theorem yy6 {α:Type} [Inhabited α] (x0 x1 x2 x3:α):subL [x0,x1,x2,x3] 0 4=[x0,x1,x2,x3]:=rfl
theorem yu7 {α:Type} [Inhabited α] (x0 x1 x2 x3 x4:α):subL [x0,x1,x2,x3,x4] 0 5=[x0,x1,x2,x3,x4]:=rfl
theorem y66 {α:Type} [Inhabited α] (x0 x1 x2 x3 x4 x5:α):subL [x0,x1,x2,x3,x4,x5] 0 6=[x0,x1,x2,x3,x4,x5]:=rfl
theorem y26 {α:Type} [Inhabited α] (x0 x1 x2 x3 x4 x5 x6:α):subL [x0,x1,x2,x3,x4,x5,x6] 0 7=[x0,x1,x2,x3,x4,x5,x6]:=rfl
theorem yn7 {α:Type} [Inhabited α] (x0 x1 x2 x3 x4 x5 x6 x7:α):subL [x0,x1,x2,x3,x4,x5,x6,x7] 0 8=[x0,x1,x2,x3,x4,x5,x6,x7]:=rfl
theorem yr7 {α:Type} [Inhabited α] (x0 x1 x2 x3 x4 x5 x6 x7 x8:α):subL [x0,x1,x2,x3,x4,x5,x6,x7,x8] 0 9=[x0,x1,x2,x3,x4,x5,x6,x7,x8]:=rfl
theorem y73 {α:Type} [Inhabited α] (x0 x1 x2 x3 x4 x5 x6 x7 x8 x9:α):subL [x0,x1,x2,x3,x4,x5,x6,x7,x8,x9] 0 10=[x0,x1,x2,x3,x4,x5,x6,x7,x8,x9]:=rfl
theorem yq4 {α:Type} [Inhabited α] (x0 x1 x2 x3 x4 x5 x6 x7 x8 x9 x10:α):subL [x0,x1,x2,x3,x4,x5,x6,x7,x8,x9,x10] 0 11=[x0,x1,x2,x3,x4,x5,x6,x7,x8,x9,x10]:=rfl
theorem yl4 {α:Type} [Inhabited α] (x0 x1 x2 x3 x4 x5 x6 x7 x8 x9 x10 x11:α):subL [x0,x1,x2,x3,x4,x5,x6,x7,x8,x9,x10,x11] 0 12=[x0,x1,x2,x3,x4,x5,x6,x7,x8,x9,x10,x11]:=rfl
theorem yp4 {α:Type} [Inhabited α] (x0 x1 x2 x3 x4 x5 x6 x7 x8 x9 x10 x11 x12:α):subL [x0,x1,x2,x3,x4,x5,x6,x7,x8,x9,x10,x11,x12] 0 13=[x0,x1,x2,x3,x4,x5,x6,x7,x8,x9,x10,x11,x12]:=rfl
theorem yb4 {α:Type} [Inhabited α] (x0 x1 x2 x3 x4 x5 x6 x7 x8 x9 x10 x11 x12 x13:α):subL [x0,x1,x2,x3,x4,x5,x6,x7,x8,x9,x10,x11,x12,x13] 0 14=[x0,x1,x2,x3,x4,x5,x6,x7,x8,x9,x10,x11,x12,x13]:=rfl
theorem sv:type_of% (
 And.intro @wGO.eq_def <|
 And.intro @wQ.eq_def <|
 And.intro @rdQ.eq_def <|
 And.intro @y6t <|
 And.intro @fl1 <|
 And.intro @fl2 <|
 And.intro @fl3 <|
 And.intro @fl4 <|
 And.intro @yz3 <|
 And.intro @yy3 <|
 And.intro @yc4 <|
 And.intro @y63 <|
 And.intro @y33 <|
 And.intro @fl5 <|
 And.intro @fl6 <|
 And.intro @fl7 <|
 And.intro @fl8 <|
 And.intro @yu4 <|
 And.intro @yg4 <|
 And.intro @y43 <|
 And.intro @y53 <|
 And.intro @y96 <|
 And.intro @y46 <|
 And.intro @yy6 <|
 And.intro @yu7 <|
 And.intro @y66 <|
 And.intro @y26 <|
 And.intro @yn7 <|
 And.intro @yr7 <|
 And.intro @y73 <|
 And.intro @yq4 <|
 And.intro @yl4 <|
 And.intro @yp4 <|
 And.intro @yb4 <|
 And.intro @yr.eq_1 <|
 And.intro @yp.eq_1 <|
 And.intro @y9t <|
 And.intro @eAid.eq_1 <|
 And.intro @dAid.eq_1 <|
 And.intro @yky <|
 And.intro @yud.eq_1 <|
 And.intro @ytf.eq_1 <|
 And.intro @yom.eq_1 <|
 And.intro @yar <|
 And.intro @yqk.eq_1 <|
 And.intro @yno.eq_1 <|
 And.intro @ydv <|
 And.intro @yq.eq_1 <|
 And.intro @ye.eq_1 <|
 And.intro @y0g <|
 And.intro @ypb.eq_1 <|
 And.intro @yx.eq_1 <|
 And.intro @yab.eq_1 <|
 And.intro @yll <|
 And.intro @ym.eq_1 <|
 And.intro @yn.eq_1 <|
 And.intro @yxl <|
 And.intro @y8s.eq_1 <|
 And.intro @yv.eq_1 <|
 And.intro @yhb.eq_1 <|
 And.intro @y1g <|
 And.intro @y3o <|
 And.intro @yuq <|
 And.intro @yvg <|
 And.intro @yoq <|
 And.intro @yjr <|
 And.intro @eIu8.eq_1 <|
 And.intro @dIu8.eq_1 <|
 And.intro @y1i <|
 And.intro @y3t <|
 And.intro @yfv <|
 And.intro @eS.eq_1 <|
 And.intro @dS.eq_1 <|
 And.intro @yvu <|
 And.intro @y13 <|
 And.intro @yr4 <|
 And.intro @yje <|
 And.intro @yfk <|
 And.intro @ynk <|
 And.intro @ysn <|
 And.intro @ypu <|
 And.intro @yuu <|
 And.intro @ykr <|
 And.intro @ylo <| @yrq):=
 And.intro @wGO.eq_def <|
 And.intro @wQ.eq_def <|
 And.intro @rdQ.eq_def <|
 And.intro @y6t <|
 And.intro @fl1 <|
 And.intro @fl2 <|
 And.intro @fl3 <|
 And.intro @fl4 <|
 And.intro @yz3 <|
 And.intro @yy3 <|
 And.intro @yc4 <|
 And.intro @y63 <|
 And.intro @y33 <|
 And.intro @fl5 <|
 And.intro @fl6 <|
 And.intro @fl7 <|
 And.intro @fl8 <|
 And.intro @yu4 <|
 And.intro @yg4 <|
 And.intro @y43 <|
 And.intro @y53 <|
 And.intro @y96 <|
 And.intro @y46 <|
 And.intro @yy6 <|
 And.intro @yu7 <|
 And.intro @y66 <|
 And.intro @y26 <|
 And.intro @yn7 <|
 And.intro @yr7 <|
 And.intro @y73 <|
 And.intro @yq4 <|
 And.intro @yl4 <|
 And.intro @yp4 <|
 And.intro @yb4 <|
 And.intro @yr.eq_1 <|
 And.intro @yp.eq_1 <|
 And.intro @y9t <|
 And.intro @eAid.eq_1 <|
 And.intro @dAid.eq_1 <|
 And.intro @yky <|
 And.intro @yud.eq_1 <|
 And.intro @ytf.eq_1 <|
 And.intro @yom.eq_1 <|
 And.intro @yar <|
 And.intro @yqk.eq_1 <|
 And.intro @yno.eq_1 <|
 And.intro @ydv <|
 And.intro @yq.eq_1 <|
 And.intro @ye.eq_1 <|
 And.intro @y0g <|
 And.intro @ypb.eq_1 <|
 And.intro @yx.eq_1 <|
 And.intro @yab.eq_1 <|
 And.intro @yll <|
 And.intro @ym.eq_1 <|
 And.intro @yn.eq_1 <|
 And.intro @yxl <|
 And.intro @y8s.eq_1 <|
 And.intro @yv.eq_1 <|
 And.intro @yhb.eq_1 <|
 And.intro @y1g <|
 And.intro @y3o <|
 And.intro @yuq <|
 And.intro @yvg <|
 And.intro @yoq <|
 And.intro @yjr <|
 And.intro @eIu8.eq_1 <|
 And.intro @dIu8.eq_1 <|
 And.intro @y1i <|
 And.intro @y3t <|
 And.intro @yfv <|
 And.intro @eS.eq_1 <|
 And.intro @dS.eq_1 <|
 And.intro @yvu <|
 And.intro @y13 <|
 And.intro @yr4 <|
 And.intro @yje <|
 And.intro @yfk <|
 And.intro @ynk <|
 And.intro @ysn <|
 And.intro @ypu <|
 And.intro @yuu <|
 And.intro @ykr <|
 And.intro @ylo <| @yrq
theorem bdv:type_of% (And.intro @bdS.eq_1 <| And.intro @bdItem.eq_1 <| And.intro @bdMark.eq_1 <| And.intro @bdLIi64.eq_1 <| And.intro @bdCharacter.eq_1 <| And.intro @bdSector.eq_1 <| And.intro @bdLSector.eq_1 <| And.intro @bdAid.eq_1 <| And.intro @bdLIu8.eq_1 <| And.intro @bdl00Src.eq_1 <| And.intro @bwS.eq_1 <| And.intro @bwItem.eq_1 <| And.intro @bwMark.eq_1 <| And.intro @bwLIi64.eq_1 <| And.intro @bwCharacter.eq_1 <| And.intro @bwSector.eq_1 <| And.intro @bwLSector.eq_1 <| And.intro @bwAid.eq_1 <| And.intro @bwLIu8.eq_1 <| And.intro @bwl00Src.eq_1 <| @Nat.le_refl):=
 And.intro @bdS.eq_1 <| And.intro @bdItem.eq_1 <| And.intro @bdMark.eq_1 <| And.intro @bdLIi64.eq_1 <| And.intro @bdCharacter.eq_1 <| And.intro @bdSector.eq_1 <| And.intro @bdLSector.eq_1 <| And.intro @bdAid.eq_1 <| And.intro @bdLIu8.eq_1 <| And.intro @bdl00Src.eq_1 <| And.intro @bwS.eq_1 <| And.intro @bwItem.eq_1 <| And.intro @bwMark.eq_1 <| And.intro @bwLIi64.eq_1 <| And.intro @bwCharacter.eq_1 <| And.intro @bwSector.eq_1 <| And.intro @bwLSector.eq_1 <| And.intro @bwAid.eq_1 <| And.intro @bwLIu8.eq_1 <| And.intro @bwl00Src.eq_1 <| @Nat.le_refl
structure SrcOk (n:Int) (s:l00Src):Prop where
 lo:0<=s.at_
 hi:s.at_<=n
 by_:∀ v∈s.code,0<=v/\v<=255
theorem SrcOk.mono {n m:Int} {s:l00Src} (h:SrcOk n s) (hm:n<=m):SrcOk m s:=⟨h.lo,Int.le_trans h.hi hm,h.by_⟩
end Go.Ab
