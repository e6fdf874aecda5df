/- A part of a proof: walks of functions and lemmas of our own. No conditions. -/
import Derived.Test.YtijmcongeemehaaGreatDoorFAk
import Derived.Test.YtijmcongeemehaaGreatDoorFAh
import Derived.KernelRfl
import Derived.Lib.LaidTab
import Derived.Lib.Fields
import Derived.Lib.ItoaNum
import Derived.Test.YtijmcongeemehaaGreatDoorProg
set_option linter.unusedSectionVars false
set_option linter.unusedVariables false
set_option linter.unusedSimpArgs false
set_option maxHeartbeats 1000000
namespace Go.Ab
open Go Go.Proofs
def tn0:String:= "internal/strconv.uint64pow10"
def tn1:String:= "strings.asciiSpace"
def y5q (w:World):Prop:=(Go.Lib.TabIs Tryz.prog w tn0 .u64 Go.Lib.pow10Tab/\∃ m,w.cell? ⟨1,0,none⟩=some (.int .i64 m))/\(∃ te pe,w.cell? ⟨3,0,none⟩=some (.iface te pe))/\(∃ te pe,w.cell? ⟨4,0,none⟩=some (.iface te pe))/\Go.Lib.TabIs Tryz.prog w tn1 .u8 Go.Lib.asciiSpaceTab
theorem g0:Tryz.prog.globalNamed tn0=some 2:=by kernel_rfl
theorem g1:Tryz.prog.globalNamed tn1=some 0:=by kernel_rfl
theorem ymw {w:World} (h:y5q w):4<w.heap.size:=by
 obtain⟨te,pe,h⟩:=h.2.2.1;by_cases hl:4<w.heap.size
 ·exact hl
 ·have h5:w.heap[4]? = none:=Array.getElem?_eq_none (by omega)
  unfold World.cell? at h;simp[h5]at h
theorem ymi {w w':World} {b:Nat} (h:w'.heap[b]? = w.heap[b]?):w'.cell? ⟨b,0,none⟩=w.cell? ⟨b,0,none⟩:=by
 unfold World.cell?;simp only[h]
instance inv0:Inv:=⟨y5q,fun b=>b<=4,fun w h b hb=>by have:=ymw h;omega,fun w w' h ho hb=>by
  obtain⟨⟨h1,h2⟩,h3,h4,h5⟩:=h;refine⟨⟨?_,by rw[ymi (hb 1 (by omega))];exact h2⟩,by rw[ymi (hb 3 (by omega))];exact h3,by rw[ymi (hb 4 (by omega))];exact h4,?_⟩
  ·unfold Go.Lib.TabIs World.var? at h1 ⊢
   rw[g0]at h1 ⊢;simp only[Option.bind_some]at h1 ⊢;rw[hb 2 (by omega)];exact h1
  ·unfold Go.Lib.TabIs World.var? at h5 ⊢
   rw[g1]at h5 ⊢;simp only[Option.bind_some]at h5 ⊢;rw[hb 0 (by omega)]
   exact h5⟩
def wGO {α : Type} (e : α -> List AV) (d : List AV -> α) : AV -> Prop
 | .agg cs=>simOL cs (e (d cs))
 | _=>False
theorem yby {α:Type} [Inhabited α] {e:α->List AV} {d:List AV->α} {a:AV} (h:wGO e d a):simO a (.agg (e (rdG d a))):=by
 cases a<;>simp_all[wGO,rdG,simO]
def rdQ {α : Type} [Inhabited α] (d : List AV -> α) : AV -> α
 | .op cs=>d cs
 | _=>default
def wQ {α : Type} (e : α -> List AV) (d : List AV -> α) : AV -> Prop
 | .op cs=>cs=e (d cs)\/simOL cs (e (d cs))
 | _=>False
theorem yk4 {α:Type} [Inhabited α] {e:α->List AV} {d:List AV->α} {a:AV} (h:wQ e d a):simO a (.op (e (rdQ d a))):=by
 cases a with
 | op cs=>
  simp only[wQ]at h;simp only[rdQ,simO];rcases h with h|h
  ·rw[<- h];exact y3 _
  ·exact h
 | _=>simp[wQ]at h
def G:Env:=[(2,⟨.int .i64,1,8,[.int .i64 0],true⟩),
 (3,⟨.int .i64,1,8,[.int .i64 0],true⟩),
 (4,⟨.bool,1,1,[.bool false],true⟩),
 (5,⟨.int .u8,1,1,[.int .u8 0],true⟩),
 (9,⟨.string,1,16,[.str []],true⟩),
 (21,⟨.int .i32,1,4,[.int .i32 0],true⟩),
 (22,⟨.slice 5,1,24,[.nils],true⟩),
 (24,⟨.slice 59,1,24,[.nils],true⟩),
 (26,⟨.slice 91,1,24,[.nils],true⟩),
 (34,⟨.struct [(0,2),(1,2),(2,24)] true,3,40,[.int .i64 0,.int .i64 0,.nils],true⟩),
 (38,⟨.slice 2,1,24,[.nils],true⟩),
 (54,⟨.struct [(0,2),(1,2)] true,2,16,[.int .i64 0,.int .i64 0],true⟩),
 (55,⟨.struct [(0,2),(1,9),(2,9),(3,9)] true,4,56,[.int .i64 0,.str [],.str [],.str []],true⟩),
 (56,⟨.struct [(0,2),(1,38),(2,9),(3,9),(4,2)] true,5,72,[.int .i64 0,.nils,.str [],.str [],.int .i64 0],true⟩),
 (57,⟨.slice 135,1,24,[.nils],true⟩),
 (59,⟨.struct [(0,2),(1,9),(2,54),(4,2),(5,55),(9,56),(14,57),(15,2)] true,16,208,[.int .i64 0,.str [],.int .i64 0,.int .i64 0,.int .i64 0,.int .i64 0,.str [],.str [],.str [],.int .i64 0,.nils,.str [],.str [],.int .i64 0,.nils,.int .i64 0],true⟩),
 (91,⟨.struct [(0,2),(1,2),(2,2),(3,2),(4,59)] true,20,240,[.int .i64 0,.int .i64 0,.int .i64 0,.int .i64 0,.int .i64 0,.str [],.int .i64 0,.int .i64 0,.int .i64 0,.int .i64 0,.str [],.str [],.str [],.int .i64 0,.nils,.str [],.str [],.int .i64 0,.nils,.int .i64 0],true⟩),
 (109,⟨.slice 9,1,24,[.nils],true⟩),
 (123,⟨.array 7 4,7,7,[.bool false,.bool false,.bool false,.bool false,.bool false,.bool false,.bool false],true⟩),
 (135,⟨.struct [(0,2),(1,2),(2,9)] true,3,32,[.int .i64 0,.int .i64 0,.str []],true⟩),
 (145,⟨.int .u64,1,8,[.int .u64 0],true⟩),
 (147,⟨.struct [(0,22),(1,3),(2,145)] true,3,40,[.nils,.int .i64 0,.int .u64 0],true⟩),
 (269,⟨.array 26 9,26,416,[.str [],.str [],.str [],.str [],.str [],.str [],.str [],.str [],.str [],.str [],.str [],.str [],.str [],.str [],.str [],.str [],.str [],.str [],.str [],.str [],.str [],.str [],.str [],.str [],.str [],.str []],true⟩),
 (281,⟨.array 12 2,12,96,[.int .i64 0,.int .i64 0,.int .i64 0,.int .i64 0,.int .i64 0,.int .i64 0,.int .i64 0,.int .i64 0,.int .i64 0,.int .i64 0,.int .i64 0,.int .i64 0],true⟩)]
theorem G_ok:TyOk Tryz.prog G:=by unfold TyOk;kernel_rfl
theorem gv:tget G 2=some ⟨.int .i64,1,8,[.int .i64 0],true⟩ /\
 tget G 3=some ⟨.int .i64,1,8,[.int .i64 0],true⟩ /\
 tget G 4=some ⟨.bool,1,1,[.bool false],true⟩ /\
 tget G 5=some ⟨.int .u8,1,1,[.int .u8 0],true⟩ /\
 tget G 9=some ⟨.string,1,16,[.str []],true⟩ /\
 tget G 21=some ⟨.int .i32,1,4,[.int .i32 0],true⟩ /\
 tget G 22=some ⟨.slice 5,1,24,[.nils],true⟩ /\
 tget G 24=some ⟨.slice 59,1,24,[.nils],true⟩ /\
 tget G 26=some ⟨.slice 91,1,24,[.nils],true⟩ /\
 tget G 34=some ⟨.struct [(0,2),(1,2),(2,24)] true,3,40,[.int .i64 0,.int .i64 0,.nils],true⟩ /\
 tget G 38=some ⟨.slice 2,1,24,[.nils],true⟩ /\
 tget G 54=some ⟨.struct [(0,2),(1,2)] true,2,16,[.int .i64 0,.int .i64 0],true⟩ /\
 tget G 55=some ⟨.struct [(0,2),(1,9),(2,9),(3,9)] true,4,56,[.int .i64 0,.str [],.str [],.str []],true⟩ /\
 tget G 56=some ⟨.struct [(0,2),(1,38),(2,9),(3,9),(4,2)] true,5,72,[.int .i64 0,.nils,.str [],.str [],.int .i64 0],true⟩ /\
 tget G 57=some ⟨.slice 135,1,24,[.nils],true⟩ /\
 tget G 59=some ⟨.struct [(0,2),(1,9),(2,54),(4,2),(5,55),(9,56),(14,57),(15,2)] true,16,208,[.int .i64 0,.str [],.int .i64 0,.int .i64 0,.int .i64 0,.int .i64 0,.str [],.str [],.str [],.int .i64 0,.nils,.str [],.str [],.int .i64 0,.nils,.int .i64 0],true⟩ /\
 tget G 91=some ⟨.struct [(0,2),(1,2),(2,2),(3,2),(4,59)] true,20,240,[.int .i64 0,.int .i64 0,.int .i64 0,.int .i64 0,.int .i64 0,.str [],.int .i64 0,.int .i64 0,.int .i64 0,.int .i64 0,.str [],.str [],.str [],.int .i64 0,.nils,.str [],.str [],.int .i64 0,.nils,.int .i64 0],true⟩ /\
 tget G 109=some ⟨.slice 9,1,24,[.nils],true⟩ /\
 tget G 123=some ⟨.array 7 4,7,7,[.bool false,.bool false,.bool false,.bool false,.bool false,.bool false,.bool false],true⟩ /\
 tget G 135=some ⟨.struct [(0,2),(1,2),(2,9)] true,3,32,[.int .i64 0,.int .i64 0,.str []],true⟩ /\
 tget G 145=some ⟨.int .u64,1,8,[.int .u64 0],true⟩ /\
 tget G 147=some ⟨.struct [(0,22),(1,3),(2,145)] true,3,40,[.nils,.int .i64 0,.int .u64 0],true⟩ /\
 tget G 269=some ⟨.array 26 9,26,416,[.str [],.str [],.str [],.str [],.str [],.str [],.str [],.str [],.str [],.str [],.str [],.str [],.str [],.str [],.str [],.str [],.str [],.str [],.str [],.str [],.str [],.str [],.str [],.str [],.str [],.str []],true⟩ /\
 tget G 281=some ⟨.array 12 2,12,96,[.int .i64 0,.int .i64 0,.int .i64 0,.int .i64 0,.int .i64 0,.int .i64 0,.int .i64 0,.int .i64 0,.int .i64 0,.int .i64 0,.int .i64 0,.int .i64 0],true⟩:=by
 and_intros<;>rfl
theorem mixed:Tryz.prog.follows .mixedOrders=true:=by kernel_rfl
def yw (v:Int):List AV:=[.int .i64 v]
def y4b : List AV -> Int
 | [c]=>rdI c
 | _=>default
def eIu8 (v:Int):List AV:=[.int .u8 v]
def dIu8 : List AV -> Int
 | [c]=>rdI c
 | _=>default
def eS (v:(List UInt8)):List AV:=[.str v]
def dS : List AV -> (List UInt8)
 | [c]=>rdS c
 | _=>default
structure Point where
 X:Int
 Y:Int
 deriving Inhabited,DecidableEq
def yve (v:Point):List AV:=[.int .i64 v.X,.int .i64 v.Y]
def yoi : List AV -> Point
 | c0::c1::_=>⟨rdI c0,rdI c1⟩
 | _=>default
theorem y1o (v:Point):Point.mk v.X v.Y=v:=rfl
structure Mark where
 Kind:Int
 Colors:(List UInt8)
 Shape:(List UInt8)
 Topmark:(List UInt8)
 deriving Inhabited,DecidableEq
def yzf (v:Mark):List AV:=[.int .i64 v.Kind,.str v.Colors,.str v.Shape,.str v.Topmark]
def ycj : List AV -> Mark
 | c0::c1::c2::c3::_=>⟨rdI c0,rdS c1,rdS c2,rdS c3⟩
 | _=>default
theorem yzu (v:Mark):Mark.mk v.Kind v.Colors v.Shape v.Topmark=v:=rfl
structure Character where
 Kind:Int
 Group:(List Int)
 Letter:(List UInt8)
 Colors:(List UInt8)
 Period:Int
 deriving Inhabited,DecidableEq
def yi (v:Character):List AV:=[.int .i64 v.Kind,encL 1 yw v.Group,.str v.Letter,.str v.Colors,.int .i64 v.Period]
def yrb (v:Character):List AV:=[.int .i64 v.Kind,ownL 2 1 yw v.Group,.str v.Letter,.str v.Colors,.int .i64 v.Period]
def yd : List AV -> Character
 | c0::c1::c2::c3::c4::_=>⟨rdI c0,rdL y4b c1,rdS c2,rdS c3,rdI c4⟩
 | _=>default
theorem yyg (v:Character):Character.mk v.Kind v.Group v.Letter v.Colors v.Period=v:=rfl
structure Sector where
 From:Int
 To:Int
 Color:(List UInt8)
 deriving Inhabited,DecidableEq
def yl (v:Sector):List AV:=[.int .i64 v.From,.int .i64 v.To,.str v.Color]
def yv : List AV -> Sector
 | c0::c1::c2::_=>⟨rdI c0,rdI c1,rdS c2⟩
 | _=>default
theorem y6l (v:Sector):Sector.mk v.From v.To v.Color=v:=rfl
structure Aid where
 Number:Int
 Name:(List UInt8)
 At:Point
 Height:Int
 Mark:Mark
 Light:Character
 Sectors:(List Sector)
 Intensity:Int
 deriving Inhabited,DecidableEq
def eAid (v:Aid):List AV:=[.int .i64 v.Number,.str v.Name,.int .i64 v.At.X,.int .i64 v.At.Y,.int .i64 v.Height,.int .i64 v.Mark.Kind,.str v.Mark.Colors,.str v.Mark.Shape,.str v.Mark.Topmark,.int .i64 v.Light.Kind,encL 1 yw v.Light.Group,.str v.Light.Letter,.str v.Light.Colors,.int .i64 v.Light.Period,encL 3 yl v.Sectors,.int .i64 v.Intensity]
def yob (v:Aid):List AV:=[.int .i64 v.Number,.str v.Name,.int .i64 v.At.X,.int .i64 v.At.Y,.int .i64 v.Height,.int .i64 v.Mark.Kind,.str v.Mark.Colors,.str v.Mark.Shape,.str v.Mark.Topmark,.int .i64 v.Light.Kind,ownL 2 1 yw v.Light.Group,.str v.Light.Letter,.str v.Light.Colors,.int .i64 v.Light.Period,ownL 135 3 yl v.Sectors,.int .i64 v.Intensity]
def dAid : List AV -> Aid
 | c0::c1::c2::c3::c4::c5::c6::c7::c8::c9::c10::c11::c12::c13::c14::c15::_=>⟨rdI c0,rdS c1,⟨rdI c2,rdI c3⟩,rdI c4,⟨rdI c5,rdS c6,rdS c7,rdS c8⟩,⟨rdI c9,rdL y4b c10,rdS c11,rdS c12,rdI c13⟩,rdL yv c14,rdI c15⟩
 | _=>default
theorem ygy (v:Aid):Aid.mk v.Number v.Name v.At v.Height v.Mark v.Light v.Sectors v.Intensity=v:=rfl
structure Edition where
 Number:Int
 Day:Int
 Aids:(List Aid)
 deriving Inhabited,DecidableEq
def ytt (v:Edition):List AV:=[.int .i64 v.Number,.int .i64 v.Day,encL 16 eAid v.Aids]
def ykr (v:Edition):List AV:=[.int .i64 v.Number,.int .i64 v.Day,ownL 59 16 yob v.Aids]
def yku : List AV -> Edition
 | c0::c1::c2::_=>⟨rdI c0,rdI c1,rdL dAid c2⟩
 | _=>default
theorem y1j (v:Edition):Edition.mk v.Number v.Day v.Aids=v:=rfl
structure l00Src where
 code:(List Int)
 at_:Int
 seed:Int
 deriving Inhabited,DecidableEq
def yk (v:l00Src):List AV:=[encL 1 eIu8 v.code,.int .i64 v.at_,.int .u64 v.seed]
def yuu (v:l00Src):List AV:=[ownL 5 1 eIu8 v.code,.int .i64 v.at_,.int .u64 v.seed]
def yn : List AV -> l00Src
 | c0::c1::c2::_=>⟨rdL dIu8 c0,rdI c1,rdI c2⟩
 | _=>default
theorem y1l (v:l00Src):l00Src.mk v.code v.at_ v.seed=v:=rfl
structure Notice where
 Number:Int
 Day:Int
 Kind:Int
 Target:Int
 Aid:Aid
 deriving Inhabited,DecidableEq
def y7y (v:Notice):List AV:=[.int .i64 v.Number,.int .i64 v.Day,.int .i64 v.Kind,.int .i64 v.Target,.int .i64 v.Aid.Number,.str v.Aid.Name,.int .i64 v.Aid.At.X,.int .i64 v.Aid.At.Y,.int .i64 v.Aid.Height,.int .i64 v.Aid.Mark.Kind,.str v.Aid.Mark.Colors,.str v.Aid.Mark.Shape,.str v.Aid.Mark.Topmark,.int .i64 v.Aid.Light.Kind,encL 1 yw v.Aid.Light.Group,.str v.Aid.Light.Letter,.str v.Aid.Light.Colors,.int .i64 v.Aid.Light.Period,encL 3 yl v.Aid.Sectors,.int .i64 v.Aid.Intensity]
def ycv (v:Notice):List AV:=[.int .i64 v.Number,.int .i64 v.Day,.int .i64 v.Kind,.int .i64 v.Target,.int .i64 v.Aid.Number,.str v.Aid.Name,.int .i64 v.Aid.At.X,.int .i64 v.Aid.At.Y,.int .i64 v.Aid.Height,.int .i64 v.Aid.Mark.Kind,.str v.Aid.Mark.Colors,.str v.Aid.Mark.Shape,.str v.Aid.Mark.Topmark,.int .i64 v.Aid.Light.Kind,ownL 2 1 yw v.Aid.Light.Group,.str v.Aid.Light.Letter,.str v.Aid.Light.Colors,.int .i64 v.Aid.Light.Period,ownL 135 3 yl v.Aid.Sectors,.int .i64 v.Aid.Intensity]
def y4c : List AV -> Notice
 | c0::c1::c2::c3::c4::c5::c6::c7::c8::c9::c10::c11::c12::c13::c14::c15::c16::c17::c18::c19::_=>⟨rdI c0,rdI c1,rdI c2,rdI c3,⟨rdI c4,rdS c5,⟨rdI c6,rdI c7⟩,rdI c8,⟨rdI c9,rdS c10,rdS c11,rdS c12⟩,⟨rdI c13,rdL y4b c14,rdS c15,rdS c16,rdI c17⟩,rdL yv c18,rdI c19⟩⟩
 | _=>default
theorem y3m (v:Notice):Notice.mk v.Number v.Day v.Kind v.Target v.Aid=v:=rfl
theorem y6d (l:List Int):decL y4b l.length (fun i=>[.int .i64 (l.getD i default)])=l:=y9b l
theorem yxp (l:List Int) (lo n:Nat):decL y4b n (fun i=>[.int .i64 (l.getD (lo+i) default)])=subL l lo n:=rfl
theorem y6p (l:List Int) (n:Nat):decL y4b n (fun i=>[.int .i64 (l.getD i default)])=subL l 0 n:=by simp only[subL,Nat.zero_add];rfl
theorem yvf (l:List Int):decL dIu8 l.length (fun i=>[.int .u8 (l.getD i default)])=l:=y9b l
theorem yyv (l:List Int) (lo n:Nat):decL dIu8 n (fun i=>[.int .u8 (l.getD (lo+i) default)])=subL l lo n:=rfl
theorem y7t (l:List Int) (n:Nat):decL dIu8 n (fun i=>[.int .u8 (l.getD i default)])=subL l 0 n:=by simp only[subL,Nat.zero_add];rfl
theorem yim (l:List (List UInt8)):decL dS l.length (fun i=>[.str (l.getD i default)])=l:=y9b l
theorem y24 (l:List (List UInt8)) (lo n:Nat):decL dS n (fun i=>[.str (l.getD (lo+i) default)])=subL l lo n:=rfl
theorem y53 (l:List (List UInt8)) (n:Nat):decL dS n (fun i=>[.str (l.getD i default)])=subL l 0 n:=by simp only[subL,Nat.zero_add];rfl
theorem yqc (l:List Sector):decL yv l.length (fun i=>[.int .i64 ((l.getD i default).From),.int .i64 ((l.getD i default).To),.str ((l.getD i default).Color)])=l:=y9b l
theorem y8j (l:List Sector) (lo n:Nat):decL yv n (fun i=>[.int .i64 ((l.getD (lo+i) default).From),.int .i64 ((l.getD (lo+i) default).To),.str ((l.getD (lo+i) default).Color)])=subL l lo n:=rfl
theorem yjk (l:List Sector) (n:Nat):decL yv n (fun i=>[.int .i64 ((l.getD i default).From),.int .i64 ((l.getD i default).To),.str ((l.getD i default).Color)])=subL l 0 n:=by simp only[subL,Nat.zero_add];rfl
theorem y1r (v:Aid):dAid [.int .i64 v.Number,.str v.Name,.int .i64 v.At.X,.int .i64 v.At.Y,.int .i64 v.Height,.int .i64 v.Mark.Kind,.str v.Mark.Colors,.str v.Mark.Shape,.str v.Mark.Topmark,.int .i64 v.Light.Kind,.sl none 1 v.Light.Group.length (fun j=>[.int .i64 (v.Light.Group.getD j default)]),.str v.Light.Letter,.str v.Light.Colors,.int .i64 v.Light.Period,.sl none 3 v.Sectors.length (fun j=>[.int .i64 ((v.Sectors.getD j default).From),.int .i64 ((v.Sectors.getD j default).To),.str ((v.Sectors.getD j default).Color)]),.int .i64 v.Intensity]=v:=by simp only[dAid,rdI,rdB,rdS,rdL,y6d,yvf,yim,yqc]
theorem yug (l:List Aid):decL dAid l.length (fun i=>[.int .i64 ((l.getD i default).Number),.str ((l.getD i default).Name),.int .i64 (((l.getD i default).At).X),.int .i64 (((l.getD i default).At).Y),.int .i64 ((l.getD i default).Height),.int .i64 (((l.getD i default).Mark).Kind),.str (((l.getD i default).Mark).Colors),.str (((l.getD i default).Mark).Shape),.str (((l.getD i default).Mark).Topmark),.int .i64 (((l.getD i default).Light).Kind),.sl none 1 (((l.getD i default).Light).Group).length (fun j=>[.int .i64 ((((l.getD i default).Light).Group).getD j default)]),.str (((l.getD i default).Light).Letter),.str (((l.getD i default).Light).Colors),.int .i64 (((l.getD i default).Light).Period),.sl none 3 ((l.getD i default).Sectors).length (fun j=>[.int .i64 ((((l.getD i default).Sectors).getD j default).From),.int .i64 ((((l.getD i default).Sectors).getD j default).To),.str ((((l.getD i default).Sectors).getD j default).Color)]),.int .i64 ((l.getD i default).Intensity)])=l:=(List.map_congr_left fun i _=>y1r (l.getD i default)).trans (y9b l)
theorem yju (l:List Aid) (lo n:Nat):decL dAid n (fun i=>[.int .i64 ((l.getD (lo+i) default).Number),.str ((l.getD (lo+i) default).Name),.int .i64 (((l.getD (lo+i) default).At).X),.int .i64 (((l.getD (lo+i) default).At).Y),.int .i64 ((l.getD (lo+i) default).Height),.int .i64 (((l.getD (lo+i) default).Mark).Kind),.str (((l.getD (lo+i) default).Mark).Colors),.str (((l.getD (lo+i) default).Mark).Shape),.str (((l.getD (lo+i) default).Mark).Topmark),.int .i64 (((l.getD (lo+i) default).Light).Kind),.sl none 1 (((l.getD (lo+i) default).Light).Group).length (fun j=>[.int .i64 ((((l.getD (lo+i) default).Light).Group).getD j default)]),.str (((l.getD (lo+i) default).Light).Letter),.str (((l.getD (lo+i) default).Light).Colors),.int .i64 (((l.getD (lo+i) default).Light).Period),.sl none 3 ((l.getD (lo+i) default).Sectors).length (fun j=>[.int .i64 ((((l.getD (lo+i) default).Sectors).getD j default).From),.int .i64 ((((l.getD (lo+i) default).Sectors).getD j default).To),.str ((((l.getD (lo+i) default).Sectors).getD j default).Color)]),.int .i64 ((l.getD (lo+i) default).Intensity)])=subL l lo n:=List.map_congr_left fun i _=>y1r (l.getD (lo+i) default)
theorem yyu (l:List Aid) (n:Nat):decL dAid n (fun i=>[.int .i64 ((l.getD i default).Number),.str ((l.getD i default).Name),.int .i64 (((l.getD i default).At).X),.int .i64 (((l.getD i default).At).Y),.int .i64 ((l.getD i default).Height),.int .i64 (((l.getD i default).Mark).Kind),.str (((l.getD i default).Mark).Colors),.str (((l.getD i default).Mark).Shape),.str (((l.getD i default).Mark).Topmark),.int .i64 (((l.getD i default).Light).Kind),.sl none 1 (((l.getD i default).Light).Group).length (fun j=>[.int .i64 ((((l.getD i default).Light).Group).getD j default)]),.str (((l.getD i default).Light).Letter),.str (((l.getD i default).Light).Colors),.int .i64 (((l.getD i default).Light).Period),.sl none 3 ((l.getD i default).Sectors).length (fun j=>[.int .i64 ((((l.getD i default).Sectors).getD j default).From),.int .i64 ((((l.getD i default).Sectors).getD j default).To),.str ((((l.getD i default).Sectors).getD j default).Color)]),.int .i64 ((l.getD i default).Intensity)])=subL l 0 n:=by simp only[subL,Nat.zero_add];exact List.map_congr_left fun i _=>y1r (l.getD i default)
theorem ybn (v:Aid):dAid [.int .i64 v.Number,.str v.Name,.int .i64 v.At.X,.int .i64 v.At.Y,.int .i64 v.Height,.int .i64 v.Mark.Kind,.str v.Mark.Colors,.str v.Mark.Shape,.str v.Mark.Topmark,.int .i64 v.Light.Kind,.sl (some 2) 1 v.Light.Group.length (fun j=>[.int .i64 (v.Light.Group.getD j default)]),.str v.Light.Letter,.str v.Light.Colors,.int .i64 v.Light.Period,.sl (some 135) 3 v.Sectors.length (fun j=>[.int .i64 ((v.Sectors.getD j default).From),.int .i64 ((v.Sectors.getD j default).To),.str ((v.Sectors.getD j default).Color)]),.int .i64 v.Intensity]=v:=by simp only[dAid,rdI,rdB,rdS,rdL,y6d,yvf,yim,yqc,yug]
theorem yhh (l:List Aid):decL dAid l.length (fun i=>[.int .i64 ((l.getD i default).Number),.str ((l.getD i default).Name),.int .i64 (((l.getD i default).At).X),.int .i64 (((l.getD i default).At).Y),.int .i64 ((l.getD i default).Height),.int .i64 (((l.getD i default).Mark).Kind),.str (((l.getD i default).Mark).Colors),.str (((l.getD i default).Mark).Shape),.str (((l.getD i default).Mark).Topmark),.int .i64 (((l.getD i default).Light).Kind),.sl (some 2) 1 (((l.getD i default).Light).Group).length (fun j=>[.int .i64 ((((l.getD i default).Light).Group).getD j default)]),.str (((l.getD i default).Light).Letter),.str (((l.getD i default).Light).Colors),.int .i64 (((l.getD i default).Light).Period),.sl (some 135) 3 ((l.getD i default).Sectors).length (fun j=>[.int .i64 ((((l.getD i default).Sectors).getD j default).From),.int .i64 ((((l.getD i default).Sectors).getD j default).To),.str ((((l.getD i default).Sectors).getD j default).Color)]),.int .i64 ((l.getD i default).Intensity)])=l:=(List.map_congr_left fun i _=>ybn (l.getD i default)).trans (y9b l)
theorem y8q (l:List Aid) (lo n:Nat):decL dAid n (fun i=>[.int .i64 ((l.getD (lo+i) default).Number),.str ((l.getD (lo+i) default).Name),.int .i64 (((l.getD (lo+i) default).At).X),.int .i64 (((l.getD (lo+i) default).At).Y),.int .i64 ((l.getD (lo+i) default).Height),.int .i64 (((l.getD (lo+i) default).Mark).Kind),.str (((l.getD (lo+i) default).Mark).Colors),.str (((l.getD (lo+i) default).Mark).Shape),.str (((l.getD (lo+i) default).Mark).Topmark),.int .i64 (((l.getD (lo+i) default).Light).Kind),.sl (some 2) 1 (((l.getD (lo+i) default).Light).Group).length (fun j=>[.int .i64 ((((l.getD (lo+i) default).Light).Group).getD j default)]),.str (((l.getD (lo+i) default).Light).Letter),.str (((l.getD (lo+i) default).Light).Colors),.int .i64 (((l.getD (lo+i) default).Light).Period),.sl (some 135) 3 ((l.getD (lo+i) default).Sectors).length (fun j=>[.int .i64 ((((l.getD (lo+i) default).Sectors).getD j default).From),.int .i64 ((((l.getD (lo+i) default).Sectors).getD j default).To),.str ((((l.getD (lo+i) default).Sectors).getD j default).Color)]),.int .i64 ((l.getD (lo+i) default).Intensity)])=subL l lo n:=List.map_congr_left fun i _=>ybn (l.getD (lo+i) default)
theorem y4o (l:List Aid) (n:Nat):decL dAid n (fun i=>[.int .i64 ((l.getD i default).Number),.str ((l.getD i default).Name),.int .i64 (((l.getD i default).At).X),.int .i64 (((l.getD i default).At).Y),.int .i64 ((l.getD i default).Height),.int .i64 (((l.getD i default).Mark).Kind),.str (((l.getD i default).Mark).Colors),.str (((l.getD i default).Mark).Shape),.str (((l.getD i default).Mark).Topmark),.int .i64 (((l.getD i default).Light).Kind),.sl (some 2) 1 (((l.getD i default).Light).Group).length (fun j=>[.int .i64 ((((l.getD i default).Light).Group).getD j default)]),.str (((l.getD i default).Light).Letter),.str (((l.getD i default).Light).Colors),.int .i64 (((l.getD i default).Light).Period),.sl (some 135) 3 ((l.getD i default).Sectors).length (fun j=>[.int .i64 ((((l.getD i default).Sectors).getD j default).From),.int .i64 ((((l.getD i default).Sectors).getD j default).To),.str ((((l.getD i default).Sectors).getD j default).Color)]),.int .i64 ((l.getD i default).Intensity)])=subL l 0 n:=by simp only[subL,Nat.zero_add];exact List.map_congr_left fun i _=>ybn (l.getD i default)
theorem ydi (v:Notice):y4c [.int .i64 v.Number,.int .i64 v.Day,.int .i64 v.Kind,.int .i64 v.Target,.int .i64 v.Aid.Number,.str v.Aid.Name,.int .i64 v.Aid.At.X,.int .i64 v.Aid.At.Y,.int .i64 v.Aid.Height,.int .i64 v.Aid.Mark.Kind,.str v.Aid.Mark.Colors,.str v.Aid.Mark.Shape,.str v.Aid.Mark.Topmark,.int .i64 v.Aid.Light.Kind,.sl none 1 v.Aid.Light.Group.length (fun j=>[.int .i64 (v.Aid.Light.Group.getD j default)]),.str v.Aid.Light.Letter,.str v.Aid.Light.Colors,.int .i64 v.Aid.Light.Period,.sl none 3 v.Aid.Sectors.length (fun j=>[.int .i64 ((v.Aid.Sectors.getD j default).From),.int .i64 ((v.Aid.Sectors.getD j default).To),.str ((v.Aid.Sectors.getD j default).Color)]),.int .i64 v.Aid.Intensity]=v:=by simp only[y4c,rdI,rdB,rdS,rdL,y6d,yvf,yim,yqc,yug,yhh]
theorem yag (l:List Notice):decL y4c l.length (fun i=>[.int .i64 ((l.getD i default).Number),.int .i64 ((l.getD i default).Day),.int .i64 ((l.getD i default).Kind),.int .i64 ((l.getD i default).Target),.int .i64 (((l.getD i default).Aid).Number),.str (((l.getD i default).Aid).Name),.int .i64 ((((l.getD i default).Aid).At).X),.int .i64 ((((l.getD i default).Aid).At).Y),.int .i64 (((l.getD i default).Aid).Height),.int .i64 ((((l.getD i default).Aid).Mark).Kind),.str ((((l.getD i default).Aid).Mark).Colors),.str ((((l.getD i default).Aid).Mark).Shape),.str ((((l.getD i default).Aid).Mark).Topmark),.int .i64 ((((l.getD i default).Aid).Light).Kind),.sl none 1 ((((l.getD i default).Aid).Light).Group).length (fun j=>[.int .i64 (((((l.getD i default).Aid).Light).Group).getD j default)]),.str ((((l.getD i default).Aid).Light).Letter),.str ((((l.getD i default).Aid).Light).Colors),.int .i64 ((((l.getD i default).Aid).Light).Period),.sl none 3 (((l.getD i default).Aid).Sectors).length (fun j=>[.int .i64 (((((l.getD i default).Aid).Sectors).getD j default).From),.int .i64 (((((l.getD i default).Aid).Sectors).getD j default).To),.str (((((l.getD i default).Aid).Sectors).getD j default).Color)]),.int .i64 (((l.getD i default).Aid).Intensity)])=l:=(List.map_congr_left fun i _=>ydi (l.getD i default)).trans (y9b l)
theorem y4k (l:List Notice) (lo n:Nat):decL y4c n (fun i=>[.int .i64 ((l.getD (lo+i) default).Number),.int .i64 ((l.getD (lo+i) default).Day),.int .i64 ((l.getD (lo+i) default).Kind),.int .i64 ((l.getD (lo+i) default).Target),.int .i64 (((l.getD (lo+i) default).Aid).Number),.str (((l.getD (lo+i) default).Aid).Name),.int .i64 ((((l.getD (lo+i) default).Aid).At).X),.int .i64 ((((l.getD (lo+i) default).Aid).At).Y),.int .i64 (((l.getD (lo+i) default).Aid).Height),.int .i64 ((((l.getD (lo+i) default).Aid).Mark).Kind),.str ((((l.getD (lo+i) default).Aid).Mark).Colors),.str ((((l.getD (lo+i) default).Aid).Mark).Shape),.str ((((l.getD (lo+i) default).Aid).Mark).Topmark),.int .i64 ((((l.getD (lo+i) default).Aid).Light).Kind),.sl none 1 ((((l.getD (lo+i) default).Aid).Light).Group).length (fun j=>[.int .i64 (((((l.getD (lo+i) default).Aid).Light).Group).getD j default)]),.str ((((l.getD (lo+i) default).Aid).Light).Letter),.str ((((l.getD (lo+i) default).Aid).Light).Colors),.int .i64 ((((l.getD (lo+i) default).Aid).Light).Period),.sl none 3 (((l.getD (lo+i) default).Aid).Sectors).length (fun j=>[.int .i64 (((((l.getD (lo+i) default).Aid).Sectors).getD j default).From),.int .i64 (((((l.getD (lo+i) default).Aid).Sectors).getD j default).To),.str (((((l.getD (lo+i) default).Aid).Sectors).getD j default).Color)]),.int .i64 (((l.getD (lo+i) default).Aid).Intensity)])=subL l lo n:=List.map_congr_left fun i _=>ydi (l.getD (lo+i) default)
theorem y7k (l:List Notice) (n:Nat):decL y4c n (fun i=>[.int .i64 ((l.getD i default).Number),.int .i64 ((l.getD i default).Day),.int .i64 ((l.getD i default).Kind),.int .i64 ((l.getD i default).Target),.int .i64 (((l.getD i default).Aid).Number),.str (((l.getD i default).Aid).Name),.int .i64 ((((l.getD i default).Aid).At).X),.int .i64 ((((l.getD i default).Aid).At).Y),.int .i64 (((l.getD i default).Aid).Height),.int .i64 ((((l.getD i default).Aid).Mark).Kind),.str ((((l.getD i default).Aid).Mark).Colors),.str ((((l.getD i default).Aid).Mark).Shape),.str ((((l.getD i default).Aid).Mark).Topmark),.int .i64 ((((l.getD i default).Aid).Light).Kind),.sl none 1 ((((l.getD i default).Aid).Light).Group).length (fun j=>[.int .i64 (((((l.getD i default).Aid).Light).Group).getD j default)]),.str ((((l.getD i default).Aid).Light).Letter),.str ((((l.getD i default).Aid).Light).Colors),.int .i64 ((((l.getD i default).Aid).Light).Period),.sl none 3 (((l.getD i default).Aid).Sectors).length (fun j=>[.int .i64 (((((l.getD i default).Aid).Sectors).getD j default).From),.int .i64 (((((l.getD i default).Aid).Sectors).getD j default).To),.str (((((l.getD i default).Aid).Sectors).getD j default).Color)]),.int .i64 (((l.getD i default).Aid).Intensity)])=subL l 0 n:=by simp only[subL,Nat.zero_add];exact List.map_congr_left fun i _=>ydi (l.getD i default)
theorem ycg (v:Notice):y4c [.int .i64 v.Number,.int .i64 v.Day,.int .i64 v.Kind,.int .i64 v.Target,.int .i64 v.Aid.Number,.str v.Aid.Name,.int .i64 v.Aid.At.X,.int .i64 v.Aid.At.Y,.int .i64 v.Aid.Height,.int .i64 v.Aid.Mark.Kind,.str v.Aid.Mark.Colors,.str v.Aid.Mark.Shape,.str v.Aid.Mark.Topmark,.int .i64 v.Aid.Light.Kind,.sl (some 2) 1 v.Aid.Light.Group.length (fun j=>[.int .i64 (v.Aid.Light.Group.getD j default)]),.str v.Aid.Light.Letter,.str v.Aid.Light.Colors,.int .i64 v.Aid.Light.Period,.sl (some 135) 3 v.Aid.Sectors.length (fun j=>[.int .i64 ((v.Aid.Sectors.getD j default).From),.int .i64 ((v.Aid.Sectors.getD j default).To),.str ((v.Aid.Sectors.getD j default).Color)]),.int .i64 v.Aid.Intensity]=v:=by simp only[y4c,rdI,rdB,rdS,rdL,y6d,yvf,yim,yqc,yug,yhh,yag]
theorem y2i (l:List Notice):decL y4c l.length (fun i=>[.int .i64 ((l.getD i default).Number),.int .i64 ((l.getD i default).Day),.int .i64 ((l.getD i default).Kind),.int .i64 ((l.getD i default).Target),.int .i64 (((l.getD i default).Aid).Number),.str (((l.getD i default).Aid).Name),.int .i64 ((((l.getD i default).Aid).At).X),.int .i64 ((((l.getD i default).Aid).At).Y),.int .i64 (((l.getD i default).Aid).Height),.int .i64 ((((l.getD i default).Aid).Mark).Kind),.str ((((l.getD i default).Aid).Mark).Colors),.str ((((l.getD i default).Aid).Mark).Shape),.str ((((l.getD i default).Aid).Mark).Topmark),.int .i64 ((((l.getD i default).Aid).Light).Kind),.sl (some 2) 1 ((((l.getD i default).Aid).Light).Group).length (fun j=>[.int .i64 (((((l.getD i default).Aid).Light).Group).getD j default)]),.str ((((l.getD i default).Aid).Light).Letter),.str ((((l.getD i default).Aid).Light).Colors),.int .i64 ((((l.getD i default).Aid).Light).Period),.sl (some 135) 3 (((l.getD i default).Aid).Sectors).length (fun j=>[.int .i64 (((((l.getD i default).Aid).Sectors).getD j default).From),.int .i64 (((((l.getD i default).Aid).Sectors).getD j default).To),.str (((((l.getD i default).Aid).Sectors).getD j default).Color)]),.int .i64 (((l.getD i default).Aid).Intensity)])=l:=(List.map_congr_left fun i _=>ycg (l.getD i default)).trans (y9b l)
theorem y3i (l:List Notice) (lo n:Nat):decL y4c n (fun i=>[.int .i64 ((l.getD (lo+i) default).Number),.int .i64 ((l.getD (lo+i) default).Day),.int .i64 ((l.getD (lo+i) default).Kind),.int .i64 ((l.getD (lo+i) default).Target),.int .i64 (((l.getD (lo+i) default).Aid).Number),.str (((l.getD (lo+i) default).Aid).Name),.int .i64 ((((l.getD (lo+i) default).Aid).At).X),.int .i64 ((((l.getD (lo+i) default).Aid).At).Y),.int .i64 (((l.getD (lo+i) default).Aid).Height),.int .i64 ((((l.getD (lo+i) default).Aid).Mark).Kind),.str ((((l.getD (lo+i) default).Aid).Mark).Colors),.str ((((l.getD (lo+i) default).Aid).Mark).Shape),.str ((((l.getD (lo+i) default).Aid).Mark).Topmark),.int .i64 ((((l.getD (lo+i) default).Aid).Light).Kind),.sl (some 2) 1 ((((l.getD (lo+i) default).Aid).Light).Group).length (fun j=>[.int .i64 (((((l.getD (lo+i) default).Aid).Light).Group).getD j default)]),.str ((((l.getD (lo+i) default).Aid).Light).Letter),.str ((((l.getD (lo+i) default).Aid).Light).Colors),.int .i64 ((((l.getD (lo+i) default).Aid).Light).Period),.sl (some 135) 3 (((l.getD (lo+i) default).Aid).Sectors).length (fun j=>[.int .i64 (((((l.getD (lo+i) default).Aid).Sectors).getD j default).From),.int .i64 (((((l.getD (lo+i) default).Aid).Sectors).getD j default).To),.str (((((l.getD (lo+i) default).Aid).Sectors).getD j default).Color)]),.int .i64 (((l.getD (lo+i) default).Aid).Intensity)])=subL l lo n:=List.map_congr_left fun i _=>ycg (l.getD (lo+i) default)
theorem yui (l:List Notice) (n:Nat):decL y4c n (fun i=>[.int .i64 ((l.getD i default).Number),.int .i64 ((l.getD i default).Day),.int .i64 ((l.getD i default).Kind),.int .i64 ((l.getD i default).Target),.int .i64 (((l.getD i default).Aid).Number),.str (((l.getD i default).Aid).Name),.int .i64 ((((l.getD i default).Aid).At).X),.int .i64 ((((l.getD i default).Aid).At).Y),.int .i64 (((l.getD i default).Aid).Height),.int .i64 ((((l.getD i default).Aid).Mark).Kind),.str ((((l.getD i default).Aid).Mark).Colors),.str ((((l.getD i default).Aid).Mark).Shape),.str ((((l.getD i default).Aid).Mark).Topmark),.int .i64 ((((l.getD i default).Aid).Light).Kind),.sl (some 2) 1 ((((l.getD i default).Aid).Light).Group).length (fun j=>[.int .i64 (((((l.getD i default).Aid).Light).Group).getD j default)]),.str ((((l.getD i default).Aid).Light).Letter),.str ((((l.getD i default).Aid).Light).Colors),.int .i64 ((((l.getD i default).Aid).Light).Period),.sl (some 135) 3 (((l.getD i default).Aid).Sectors).length (fun j=>[.int .i64 (((((l.getD i default).Aid).Sectors).getD j default).From),.int .i64 (((((l.getD i default).Aid).Sectors).getD j default).To),.str (((((l.getD i default).Aid).Sectors).getD j default).Color)]),.int .i64 (((l.getD i default).Aid).Intensity)])=subL l 0 n:=by simp only[subL,Nat.zero_add];exact List.map_congr_left fun i _=>ycg (l.getD i default)
def bdS (v:List UInt8):Prop:=v.length<1099511627776
instance:DecidablePred bdS:=fun v=>inferInstanceAs (Decidable (v.length<1099511627776))
def bdMark (v:Mark):Prop:=bdS v.Colors/\bdS v.Shape/\bdS v.Topmark
instance:DecidablePred bdMark:=fun v=>by unfold bdMark;infer_instance
def bdLIi64 (v:(List Int)):Prop:=v.length<1099511627776
instance:DecidablePred bdLIi64:=fun v=>by unfold bdLIi64;infer_instance
def bdCharacter (v:Character):Prop:=bdLIi64 v.Group/\bdS v.Letter/\bdS v.Colors
instance:DecidablePred bdCharacter:=fun v=>by unfold bdCharacter;infer_instance
def bdSector (v:Sector):Prop:=bdS v.Color
instance:DecidablePred bdSector:=fun v=>by unfold bdSector;infer_instance
def bdLSector (v:(List Sector)):Prop:=v.length<1099511627776/\∀ x∈v,bdSector x
instance:DecidablePred bdLSector:=fun v=>by unfold bdLSector;infer_instance
def bdAid (v:Aid):Prop:=bdS v.Name/\bdMark v.Mark/\bdCharacter v.Light/\bdLSector v.Sectors
instance:DecidablePred bdAid:=fun v=>by unfold bdAid;infer_instance
def bdLAid (v:(List Aid)):Prop:=v.length<1099511627776/\∀ x∈v,bdAid x
instance:DecidablePred bdLAid:=fun v=>by unfold bdLAid;infer_instance
def bdEdition (v:Edition):Prop:=bdLAid v.Aids
instance:DecidablePred bdEdition:=fun v=>by unfold bdEdition;infer_instance
def bdLIu8 (v:(List Int)):Prop:=v.length<1099511627776
instance:DecidablePred bdLIu8:=fun v=>by unfold bdLIu8;infer_instance
def bdl00Src (v:l00Src):Prop:=bdLIu8 v.code
instance:DecidablePred bdl00Src:=fun v=>by unfold bdl00Src;infer_instance
def bdNotice (v:Notice):Prop:=bdAid v.Aid
instance:DecidablePred bdNotice:=fun v=>by unfold bdNotice;infer_instance
def bwS (v:List UInt8):Prop:=v.length<9223372036854775808
instance:DecidablePred bwS:=fun v=>inferInstanceAs (Decidable (v.length<9223372036854775808))
def bwMark (v:Mark):Prop:=bwS v.Colors/\bwS v.Shape/\bwS v.Topmark
instance:DecidablePred bwMark:=fun v=>by unfold bwMark;infer_instance
def bwLIi64 (v:(List Int)):Prop:=v.length<9223372036854775808
instance:DecidablePred bwLIi64:=fun v=>by unfold bwLIi64;infer_instance
def bwCharacter (v:Character):Prop:=bwLIi64 v.Group/\bwS v.Letter/\bwS v.Colors
instance:DecidablePred bwCharacter:=fun v=>by unfold bwCharacter;infer_instance
def bwSector (v:Sector):Prop:=bwS v.Color
instance:DecidablePred bwSector:=fun v=>by unfold bwSector;infer_instance
def bwLSector (v:(List Sector)):Prop:=v.length<9223372036854775808/\∀ x∈v,bwSector x
instance:DecidablePred bwLSector:=fun v=>by unfold bwLSector;infer_instance
def bwAid (v:Aid):Prop:=bwS v.Name/\bwMark v.Mark/\bwCharacter v.Light/\bwLSector v.Sectors
instance:DecidablePred bwAid:=fun v=>by unfold bwAid;infer_instance
def bwLAid (v:(List Aid)):Prop:=v.length<9223372036854775808/\∀ x∈v,bwAid x
instance:DecidablePred bwLAid:=fun v=>by unfold bwLAid;infer_instance
def bwEdition (v:Edition):Prop:=bwLAid v.Aids
instance:DecidablePred bwEdition:=fun v=>by unfold bwEdition;infer_instance
def bwLIu8 (v:(List Int)):Prop:=v.length<9223372036854775808
instance:DecidablePred bwLIu8:=fun v=>by unfold bwLIu8;infer_instance
def bwl00Src (v:l00Src):Prop:=bwLIu8 v.code
instance:DecidablePred bwl00Src:=fun v=>by unfold bwl00Src;infer_instance
def bwNotice (v:Notice):Prop:=bwAid v.Aid
instance:DecidablePred bwNotice:=fun v=>by unfold bwNotice;infer_instance
theorem y2t (v:List UInt8) (h:yfd [.str v]):bwS v:=Nat.lt_succ_of_le h.1
theorem yuh (v:Mark) (h:yfd (yzf v)):bwMark v:=⟨Nat.lt_succ_of_le h.2.1,Nat.lt_succ_of_le h.2.2.1,Nat.lt_succ_of_le h.2.2.2.1⟩
theorem yu (v:Character) (h:yfd (yi v)):bwCharacter v:=⟨Nat.lt_succ_of_le (yc h.2.1).1,Nat.lt_succ_of_le h.2.2.1,Nat.lt_succ_of_le h.2.2.2.1⟩
theorem y9 (v:Sector) (h:yfd (yl v)):bwSector v:=Nat.lt_succ_of_le h.2.2.1
theorem y5 (v:Aid) (h:yfd (eAid v)):bwAid v:=⟨Nat.lt_succ_of_le h.2.1,⟨Nat.lt_succ_of_le h.2.2.2.2.2.2.1,Nat.lt_succ_of_le h.2.2.2.2.2.2.2.1,Nat.lt_succ_of_le h.2.2.2.2.2.2.2.2.1⟩,⟨Nat.lt_succ_of_le (yc h.2.2.2.2.2.2.2.2.2.2.1).1,Nat.lt_succ_of_le h.2.2.2.2.2.2.2.2.2.2.2.1,Nat.lt_succ_of_le h.2.2.2.2.2.2.2.2.2.2.2.2.1⟩,⟨Nat.lt_succ_of_le (yc h.2.2.2.2.2.2.2.2.2.2.2.2.2.2.1).1,fun y hy=>y9 y ((yc h.2.2.2.2.2.2.2.2.2.2.2.2.2.2.1).2 y hy)⟩⟩
theorem yab (v:l00Src) (h:yfd (yk v)):bwl00Src v:=Nat.lt_succ_of_le (yc h.1).1
theorem fl5 (p:Nat->Prop):(∀ i,i<5->p i)=(p 0/\p 1/\p 2/\p 3/\p 4):=by
 apply propext;refine⟨fun h=>⟨h 0 (by omega),h 1 (by omega),h 2 (by omega),h 3 (by omega),h 4 (by omega)⟩,fun h i hi => ?_⟩;obtain⟨h0,h1,h2,h3,h4⟩:=h;have hc:i=0\/i=1\/i=2\/i=3\/i=4:=by omega
 rcases hc with rfl|rfl|rfl|rfl|rfl<;>assumption
theorem yr4 {α:Type} (d:List AV->α) (f:Nat->List AV):decL d 5 f=[d (f 0),d (f 1),d (f 2),d (f 3),d (f 4)]:=rfl
theorem fl6 (p:Nat->Prop):(∀ i,i<6->p i)=(p 0/\p 1/\p 2/\p 3/\p 4/\p 5):=by
 apply propext;refine⟨fun h=>⟨h 0 (by omega),h 1 (by omega),h 2 (by omega),h 3 (by omega),h 4 (by omega),h 5 (by omega)⟩,fun h i hi => ?_⟩;obtain⟨h0,h1,h2,h3,h4,h5⟩:=h;have hc:i=0\/i=1\/i=2\/i=3\/i=4\/i=5:=by omega
 rcases hc with rfl|rfl|rfl|rfl|rfl|rfl<;>assumption
theorem yv4 {α:Type} (d:List AV->α) (f:Nat->List AV):decL d 6 f=[d (f 0),d (f 1),d (f 2),d (f 3),d (f 4),d (f 5)]:=rfl
theorem fl7 (p:Nat->Prop):(∀ i,i<7->p i)=(p 0/\p 1/\p 2/\p 3/\p 4/\p 5/\p 6):=by
 apply propext;refine⟨fun h=>⟨h 0 (by omega),h 1 (by omega),h 2 (by omega),h 3 (by omega),h 4 (by omega),h 5 (by omega),h 6 (by omega)⟩,fun h i hi => ?_⟩;obtain⟨h0,h1,h2,h3,h4,h5,h6⟩:=h;have hc:i=0\/i=1\/i=2\/i=3\/i=4\/i=5\/i=6:=by omega
 rcases hc with rfl|rfl|rfl|rfl|rfl|rfl|rfl<;>assumption
theorem yf4 {α:Type} (d:List AV->α) (f:Nat->List AV):decL d 7 f=[d (f 0),d (f 1),d (f 2),d (f 3),d (f 4),d (f 5),d (f 6)]:=rfl
theorem fl8 (p:Nat->Prop):(∀ i,i<8->p i)=(p 0/\p 1/\p 2/\p 3/\p 4/\p 5/\p 6/\p 7):=by
 apply propext;refine⟨fun h=>⟨h 0 (by omega),h 1 (by omega),h 2 (by omega),h 3 (by omega),h 4 (by omega),h 5 (by omega),h 6 (by omega),h 7 (by omega)⟩,fun h i hi => ?_⟩;obtain⟨h0,h1,h2,h3,h4,h5,h6,h7⟩:=h;have hc:i=0\/i=1\/i=2\/i=3\/i=4\/i=5\/i=6\/i=7:=by omega
 rcases hc with rfl|rfl|rfl|rfl|rfl|rfl|rfl|rfl<;>assumption
theorem yw4 {α:Type} (d:List AV->α) (f:Nat->List AV):decL d 8 f=[d (f 0),d (f 1),d (f 2),d (f 3),d (f 4),d (f 5),d (f 6),d (f 7)]:=rfl
theorem yb8 {α:Type} [Inhabited α] (x0 x1:α):subL [x0,x1] 0 2=[x0,x1]:=rfl
theorem yc7 {α:Type} [Inhabited α] (x0 x1 x2:α):subL [x0,x1,x2] 0 3=[x0,x1,x2]:=rfl
theorem yf7 {α:Type} [Inhabited α] (x0 x1 x2 x3:α):subL [x0,x1,x2,x3] 0 4=[x0,x1,x2,x3]:=rfl
theorem yv8 {α:Type} [Inhabited α] (x0 x1 x2 x3 x4:α):subL [x0,x1,x2,x3,x4] 0 5=[x0,x1,x2,x3,x4]:=rfl
theorem yx7 {α:Type} [Inhabited α] (x0 x1 x2 x3 x4 x5:α):subL [x0,x1,x2,x3,x4,x5] 0 6=[x0,x1,x2,x3,x4,x5]:=rfl
theorem y87 {α:Type} [Inhabited α] (x0 x1 x2 x3 x4 x5 x6:α):subL [x0,x1,x2,x3,x4,x5,x6] 0 7=[x0,x1,x2,x3,x4,x5,x6]:=rfl
theorem yp8 {α:Type} [Inhabited α] (x0 x1 x2 x3 x4 x5 x6 x7:α):subL [x0,x1,x2,x3,x4,x5,x6,x7] 0 8=[x0,x1,x2,x3,x4,x5,x6,x7]:=rfl
theorem y67 {α:Type} [Inhabited α] (x0 x1 x2 x3 x4 x5 x6 x7 x8:α):subL [x0,x1,x2,x3,x4,x5,x6,x7,x8] 0 9=[x0,x1,x2,x3,x4,x5,x6,x7,x8]:=rfl
theorem y73 {α:Type} [Inhabited α] (x0 x1 x2 x3 x4 x5 x6 x7 x8 x9:α):subL [x0,x1,x2,x3,x4,x5,x6,x7,x8,x9] 0 10=[x0,x1,x2,x3,x4,x5,x6,x7,x8,x9]:=rfl
theorem ym4 {α:Type} [Inhabited α] (x0 x1 x2 x3 x4 x5 x6 x7 x8 x9 x10:α):subL [x0,x1,x2,x3,x4,x5,x6,x7,x8,x9,x10] 0 11=[x0,x1,x2,x3,x4,x5,x6,x7,x8,x9,x10]:=rfl
theorem yu4 {α:Type} [Inhabited α] (x0 x1 x2 x3 x4 x5 x6 x7 x8 x9 x10 x11:α):subL [x0,x1,x2,x3,x4,x5,x6,x7,x8,x9,x10,x11] 0 12=[x0,x1,x2,x3,x4,x5,x6,x7,x8,x9,x10,x11]:=rfl
theorem ya5 {α:Type} [Inhabited α] (x0 x1 x2 x3 x4 x5 x6 x7 x8 x9 x10 x11 x12:α):subL [x0,x1,x2,x3,x4,x5,x6,x7,x8,x9,x10,x11,x12] 0 13=[x0,x1,x2,x3,x4,x5,x6,x7,x8,x9,x10,x11,x12]:=rfl
theorem yq4 {α:Type} [Inhabited α] (x0 x1 x2 x3 x4 x5 x6 x7 x8 x9 x10 x11 x12 x13:α):subL [x0,x1,x2,x3,x4,x5,x6,x7,x8,x9,x10,x11,x12,x13] 0 14=[x0,x1,x2,x3,x4,x5,x6,x7,x8,x9,x10,x11,x12,x13]:=rfl
theorem sv:type_of% (
 And.intro @wGO.eq_def <|
 And.intro @wQ.eq_def <|
 And.intro @rdQ.eq_def <|
 And.intro @ytv <|
 And.intro @fl1 <|
 And.intro @fl2 <|
 And.intro @fl3 <|
 And.intro @fl4 <|
 And.intro @y83 <|
 And.intro @y04 <|
 And.intro @y84 <|
 And.intro @yn4 <|
 And.intro @y74 <|
 And.intro @fl5 <|
 And.intro @fl6 <|
 And.intro @fl7 <|
 And.intro @fl8 <|
 And.intro @yr4 <|
 And.intro @yv4 <|
 And.intro @yf4 <|
 And.intro @yw4 <|
 And.intro @yb8 <|
 And.intro @yc7 <|
 And.intro @yf7 <|
 And.intro @yv8 <|
 And.intro @yx7 <|
 And.intro @y87 <|
 And.intro @yp8 <|
 And.intro @y67 <|
 And.intro @y73 <|
 And.intro @ym4 <|
 And.intro @yu4 <|
 And.intro @ya5 <|
 And.intro @yq4 <|
 And.intro @eAid.eq_1 <|
 And.intro @dAid.eq_1 <|
 And.intro @ygy <|
 And.intro @yob.eq_1 <|
 And.intro @yve.eq_1 <|
 And.intro @yoi.eq_1 <|
 And.intro @y1o <|
 And.intro @yzf.eq_1 <|
 And.intro @ycj.eq_1 <|
 And.intro @yzu <|
 And.intro @yi.eq_1 <|
 And.intro @yd.eq_1 <|
 And.intro @yyg <|
 And.intro @yrb.eq_1 <|
 And.intro @yl.eq_1 <|
 And.intro @yv.eq_1 <|
 And.intro @y6l <|
 And.intro @ytt.eq_1 <|
 And.intro @yku.eq_1 <|
 And.intro @y1j <|
 And.intro @ykr.eq_1 <|
 And.intro @yk.eq_1 <|
 And.intro @yn.eq_1 <|
 And.intro @y1l <|
 And.intro @yuu.eq_1 <|
 And.intro @y7y.eq_1 <|
 And.intro @y4c.eq_1 <|
 And.intro @y3m <|
 And.intro @ycv.eq_1 <|
 And.intro @yw.eq_1 <|
 And.intro @y4b.eq_1 <|
 And.intro @y6d <|
 And.intro @yxp <|
 And.intro @y6p <|
 And.intro @eIu8.eq_1 <|
 And.intro @dIu8.eq_1 <|
 And.intro @yvf <|
 And.intro @yyv <|
 And.intro @y7t <|
 And.intro @eS.eq_1 <|
 And.intro @dS.eq_1 <|
 And.intro @yim <|
 And.intro @y24 <|
 And.intro @y53 <|
 And.intro @yqc <|
 And.intro @y8j <|
 And.intro @yjk <|
 And.intro @yug <|
 And.intro @yju <|
 And.intro @yyu <|
 And.intro @yhh <|
 And.intro @y8q <|
 And.intro @y4o <|
 And.intro @yag <|
 And.intro @y4k <|
 And.intro @y7k <|
 And.intro @y2i <|
 And.intro @y3i <| @yui):=
 And.intro @wGO.eq_def <|
 And.intro @wQ.eq_def <|
 And.intro @rdQ.eq_def <|
 And.intro @ytv <|
 And.intro @fl1 <|
 And.intro @fl2 <|
 And.intro @fl3 <|
 And.intro @fl4 <|
 And.intro @y83 <|
 And.intro @y04 <|
 And.intro @y84 <|
 And.intro @yn4 <|
 And.intro @y74 <|
 And.intro @fl5 <|
 And.intro @fl6 <|
 And.intro @fl7 <|
 And.intro @fl8 <|
 And.intro @yr4 <|
 And.intro @yv4 <|
 And.intro @yf4 <|
 And.intro @yw4 <|
 And.intro @yb8 <|
 And.intro @yc7 <|
 And.intro @yf7 <|
 And.intro @yv8 <|
 And.intro @yx7 <|
 And.intro @y87 <|
 And.intro @yp8 <|
 And.intro @y67 <|
 And.intro @y73 <|
 And.intro @ym4 <|
 And.intro @yu4 <|
 And.intro @ya5 <|
 And.intro @yq4 <|
 And.intro @eAid.eq_1 <|
 And.intro @dAid.eq_1 <|
 And.intro @ygy <|
 And.intro @yob.eq_1 <|
 And.intro @yve.eq_1 <|
 And.intro @yoi.eq_1 <|
 And.intro @y1o <|
 And.intro @yzf.eq_1 <|
 And.intro @ycj.eq_1 <|
 And.intro @yzu <|
 And.intro @yi.eq_1 <|
 And.intro @yd.eq_1 <|
 And.intro @yyg <|
 And.intro @yrb.eq_1 <|
 And.intro @yl.eq_1 <|
 And.intro @yv.eq_1 <|
 And.intro @y6l <|
 And.intro @ytt.eq_1 <|
 And.intro @yku.eq_1 <|
 And.intro @y1j <|
 And.intro @ykr.eq_1 <|
 And.intro @yk.eq_1 <|
 And.intro @yn.eq_1 <|
 And.intro @y1l <|
 And.intro @yuu.eq_1 <|
 And.intro @y7y.eq_1 <|
 And.intro @y4c.eq_1 <|
 And.intro @y3m <|
 And.intro @ycv.eq_1 <|
 And.intro @yw.eq_1 <|
 And.intro @y4b.eq_1 <|
 And.intro @y6d <|
 And.intro @yxp <|
 And.intro @y6p <|
 And.intro @eIu8.eq_1 <|
 And.intro @dIu8.eq_1 <|
 And.intro @yvf <|
 And.intro @yyv <|
 And.intro @y7t <|
 And.intro @eS.eq_1 <|
 And.intro @dS.eq_1 <|
 And.intro @yim <|
 And.intro @y24 <|
 And.intro @y53 <|
 And.intro @yqc <|
 And.intro @y8j <|
 And.intro @yjk <|
 And.intro @yug <|
 And.intro @yju <|
 And.intro @yyu <|
 And.intro @yhh <|
 And.intro @y8q <|
 And.intro @y4o <|
 And.intro @yag <|
 And.intro @y4k <|
 And.intro @y7k <|
 And.intro @y2i <|
 And.intro @y3i <| @yui
theorem bdv:type_of% (And.intro @bdS.eq_1 <| And.intro @bdMark.eq_1 <| And.intro @bdLIi64.eq_1 <| And.intro @bdCharacter.eq_1 <| And.intro @bdSector.eq_1 <| And.intro @bdLSector.eq_1 <| And.intro @bdAid.eq_1 <| And.intro @bdLAid.eq_1 <| And.intro @bdEdition.eq_1 <| And.intro @bdLIu8.eq_1 <| And.intro @bdl00Src.eq_1 <| And.intro @bdNotice.eq_1 <| And.intro @bwS.eq_1 <| And.intro @bwMark.eq_1 <| And.intro @bwLIi64.eq_1 <| And.intro @bwCharacter.eq_1 <| And.intro @bwSector.eq_1 <| And.intro @bwLSector.eq_1 <| And.intro @bwAid.eq_1 <| And.intro @bwLAid.eq_1 <| And.intro @bwEdition.eq_1 <| And.intro @bwLIu8.eq_1 <| And.intro @bwl00Src.eq_1 <| And.intro @bwNotice.eq_1 <| @Nat.le_refl):=
 And.intro @bdS.eq_1 <| And.intro @bdMark.eq_1 <| And.intro @bdLIi64.eq_1 <| And.intro @bdCharacter.eq_1 <| And.intro @bdSector.eq_1 <| And.intro @bdLSector.eq_1 <| And.intro @bdAid.eq_1 <| And.intro @bdLAid.eq_1 <| And.intro @bdEdition.eq_1 <| And.intro @bdLIu8.eq_1 <| And.intro @bdl00Src.eq_1 <| And.intro @bdNotice.eq_1 <| And.intro @bwS.eq_1 <| And.intro @bwMark.eq_1 <| And.intro @bwLIi64.eq_1 <| And.intro @bwCharacter.eq_1 <| And.intro @bwSector.eq_1 <| And.intro @bwLSector.eq_1 <| And.intro @bwAid.eq_1 <| And.intro @bwLAid.eq_1 <| And.intro @bwEdition.eq_1 <| And.intro @bwLIu8.eq_1 <| And.intro @bwl00Src.eq_1 <| And.intro @bwNotice.eq_1 <| @Nat.le_refl
structure SrcOk (n:Int) (s:l00Src):Prop where
 lo:0<=s.at_
 hi:s.at_<=n
 by_:∀ v∈s.code,0<=v/\v<=255
theorem SrcOk.mono {n m:Int} {s:l00Src} (h:SrcOk n s) (hm:n<=m):SrcOk m s:=⟨h.lo,Int.le_trans h.hi hm,h.by_⟩
end Go.Ab
