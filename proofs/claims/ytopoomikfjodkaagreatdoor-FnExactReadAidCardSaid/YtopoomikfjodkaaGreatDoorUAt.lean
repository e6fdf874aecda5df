/- A part of a proof: walks of functions and lemmas of our own. No conditions. -/
import Derived.Test.YtopoomikfjodkaaGreatDoorUAs
import Derived.Test.YtopoomikfjodkaaGreatDoorUAo
import Derived.Test.YtopoomikfjodkaaGreatDoorUAl
set_option linter.unusedSectionVars false
set_option linter.unusedVariables false
set_option linter.unusedSimpArgs false
set_option maxHeartbeats 1000000
namespace Go.Ab
open Go Go.Proofs
theorem ywf (a:Int):zjb a=(yqc.getD (IntKind.wrap .u8 (a-65)).toNat default).map (fun c=>if c=46 then(5:Int)else 15):=by
 have h:=yjc (yhl a) (fun j=>[if((yqc.getD (IntKind.wrap .u8 (a-65)).toNat default).getD j 0)=46 then(5:Int)else 15]) (yqc.getD (IntKind.wrap .u8 (a-65)).toNat default).length 0 [] (fun j s _ _=>by
  show(bif ((((yqc.getD (IntKind.wrap .u8 (a-65)).toNat default).getD j 0).toNat:Int) == 46)then(.ok (s++[5]):Except (List Int) (List Int))else .ok (s++[15]))=_
  generalize (yqc.getD (IntKind.wrap .u8 (a-65)).toNat default).getD j 0=c
  by_cases hc:c=46
  ·subst hc;rfl
  ·have:((c.toNat:Int) == 46)=false:=by
    rw[beq_eq_false_iff_ne]
    intro h
    exact hc (UInt8.toNat_inj.1 (by show c.toNat=46;omega))
   rw[this,if_neg hc];rfl)
 have e:zjb a=(match yd (yhl a) (yqc.getD (IntKind.wrap .u8 (a-65)).toNat default).length 0 ([]:List Int)with|.error e=>e|.ok s1=>s1):=rfl
 rw[e,h]
 simp only[List.nil_append]
 exact yne _ 0 (fun c=>if c=46 then(5:Int)else 15)
theorem y4o (a:Int):(zjb a).length≤4:=by
 rw[ywf,List.length_map]
 exact yui _
end Go.Ab

namespace Go.Ab
open Go Go.Proofs
def zde (a0:Character):Bool:=
 ((a0.Kind == 1) || (((a0.Kind == 6) || (a0.Kind == 7)) && ((a0.Group.length:Int) == 0)))
namespace N275
theorem DD:DOk Tryz.prog (Go.Ab.DD []):=ye _
theorem den (a0:Character)  : Den Tryz.prog 275 [.ep (yf a0)] (.bool (zde a0)):=by
 generalize hR:zde a0=r
 unfold zde at hR
 refine di Tryz.func275 Tryz.ntmps275 Tryz.results275 ?_
 intro c hL hc hk
 obtain⟨hL0,_⟩:=hL
 have hw0:bwCharacter a0:=yn a0 hL0
 clear hL0
 simp only[pars,Nat.zero_add]
 iterate 2 refine rS ?_
 refine AWP.ret ?_
 subst hR
 exact es
end N275
def D_zde : DF
 | [x0]=>some (.bool (zde (rdP yc x0)),false,[wP yf yc x0])
 | _=>none
theorem yhs:OkD Tryz.prog 275 D_zde:=by unfold D_zde;exact dk N275.den
end Go.Ab

namespace Go.Ab
open Go Go.Proofs
def y8n (a0:(List Int)) (i1:Nat) (s1:Int):Except (Int) (Int):=
 .ok (IntKind.wrap .i64 (s1+(a0.getD i1 default)))
def zdd (a0:(List Int)):Int:=
 (match yd (y8n a0) (a0.length-0) 0 0 with|.error e=>e|.ok s1=>s1)
namespace N328
theorem DD:DOk Tryz.prog (Go.Ab.DD []):=ye _
theorem den (a0:(List Int))  : Den Tryz.prog 328 [encL 1 yq a0] (.int .i64 (zdd a0)):=by
 generalize hR:zdd a0=r
 unfold zdd at hR
 refine di Tryz.func328 Tryz.ntmps328 Tryz.results328 ?_
 intro c hL hc hk
 obtain⟨hL0,_⟩:=hL
 have hw0:a0.length<9223372036854775808:=Nat.lt_succ_of_le (ym hL0).1
 clear hL0
 simp only[pars,Nat.zero_add]
 iterate 3 refine rS ?_
 refine AWP.block ?_
 generalize hz1:yd (y8n a0) (a0.length-0) 0 0=z1 at hR
 refine AWP.range (y8n a0) (fun i1 s1=>⟨[(0,encL 1 yq a0),(3,.int .i64 s1),(4,.int .i64 (i1:Int))],[]⟩) (fun i1 s1=>True) (a0.length) 0 0 [] hz1 ot wt sm ?_
 clear hz1
 intro i1 s1 hi1 hW1 hz1
 refine rS ?_
 refine AWP.cond rfl (fun hb => ?_) (fun hb => ?_)
 ·have hlt1:i1<a0.length:=ot
  rw[yh hlt1]at hz1;simp only[y8n]at hz1
  iterate 2 refine rS ?_
  exact⟨_,[],hlt1,wt,hz1,sm⟩
 ·obtain rfl:i1=a0.length:=ot
  rw[yg (Nat.le_refl _)]at hz1;subst hz1;dsimp only at hR
  refine AWP.exit ?_;refine yb ?_
  refine rS ?_
  refine AWP.ret ?_
  subst hR
  exact es
end N328
def D_zdd : DF
 | [x0]=>some (.int .i64 (zdd (rdL ywb x0)),false,[wL 1 yq ywb x0])
 | _=>none
theorem y1z:OkD Tryz.prog 328 D_zdd:=by unfold D_zdd;exact dk N328.den
end Go.Ab

namespace Go.Ab
open Go Go.Proofs
def ztb (a0:Int):Int:=
 (bif (a0 == 2)then 10 else(bif (a0 == 4)then 15 else(bif (a0 == 5)then 20 else(bif (a0 == 7)then 3 else 5))))
namespace N368
theorem DD:DOk Tryz.prog (Go.Ab.DD []):=ye _
theorem den (a0:Int)  : Den Tryz.prog 368 [.int .i64 a0] (.int .i64 (ztb a0)):=by
 generalize hR:ztb a0=r
 unfold ztb at hR
 refine di Tryz.func368 Tryz.ntmps368 Tryz.results368 ?_
 intro c hL hc hk
 clear hL
 simp only[pars,Nat.zero_add]
 iterate 3 refine rS ?_
 refine AWP.cond rfl (fun hb => ?_) (fun hb => ?_)
 ·replace hR:=ct hR
  refine rS ?_
  refine AWP.ret ?_
  subst hR
  exact es
 ·replace hR:=cf hR
  refine rS ?_
  refine AWP.cond rfl (fun hb => ?_) (fun hb => ?_)
  ·replace hR:=ct hR
   refine rS ?_
   refine AWP.ret ?_
   subst hR
   exact es
  ·replace hR:=cf hR
   refine rS ?_
   refine AWP.cond rfl (fun hb => ?_) (fun hb => ?_)
   ·replace hR:=ct hR
    refine rS ?_
    refine AWP.ret ?_
    subst hR
    exact es
   ·replace hR:=cf hR
    refine rS ?_
    refine AWP.cond rfl (fun hb => ?_) (fun hb => ?_)
    ·replace hR:=ct hR
     refine rS ?_
     refine AWP.ret ?_
     subst hR
     exact es
    ·replace hR:=cf hR
     refine rS ?_
     refine AWP.ret ?_
     subst hR
     exact es
end N368
def D_ztb : DF
 | [x0]=>some (.int .i64 (ztb (rdI x0)),false,[wI .i64 x0])
 | _=>none
theorem yqt:OkD Tryz.prog 368 D_ztb:=by unfold D_ztb;exact dk N368.den
end Go.Ab

namespace Go.Ab
open Go Go.Proofs
def zkd (a0:Int):Int:=
 (bif (a0 == 2)then 10 else(bif (a0 == 5)then 20 else(bif (a0 == 7)then 2 else 5)))
namespace N369
theorem DD:DOk Tryz.prog (Go.Ab.DD []):=ye _
theorem den (a0:Int)  : Den Tryz.prog 369 [.int .i64 a0] (.int .i64 (zkd a0)):=by
 generalize hR:zkd a0=r
 unfold zkd at hR
 refine di Tryz.func369 Tryz.ntmps369 Tryz.results369 ?_
 intro c hL hc hk
 clear hL
 simp only[pars,Nat.zero_add]
 iterate 3 refine rS ?_
 refine AWP.cond rfl (fun hb => ?_) (fun hb => ?_)
 ·replace hR:=ct hR
  refine rS ?_
  refine AWP.ret ?_
  subst hR
  exact es
 ·replace hR:=cf hR
  refine rS ?_
  refine AWP.cond rfl (fun hb => ?_) (fun hb => ?_)
  ·replace hR:=ct hR
   refine rS ?_
   refine AWP.ret ?_
   subst hR
   exact es
  ·replace hR:=cf hR
   refine rS ?_
   refine AWP.cond rfl (fun hb => ?_) (fun hb => ?_)
   ·replace hR:=ct hR
    refine rS ?_
    refine AWP.ret ?_
    subst hR
    exact es
   ·replace hR:=cf hR
    refine rS ?_
    refine AWP.ret ?_
    subst hR
    exact es
end N369
def D_zkd : DF
 | [x0]=>some (.int .i64 (zkd (rdI x0)),false,[wI .i64 x0])
 | _=>none
theorem yzx:OkD Tryz.prog 369 D_zkd:=by unfold D_zkd;exact dk N369.den
end Go.Ab

namespace Go.Ab
open Go Go.Proofs
def zle (a0:Character):Int:=
 (bif (a0.Kind == 6)then 20 else(bif (a0.Kind == 7)then 10 else(bif (a0.Kind == 8)then 30 else(bif decide (1<(a0.Group.length:Int))then IntKind.wrap .i64 ((IntKind.wrap .i64 ((ztb a0.Kind)+5))+20)else IntKind.wrap .i64 ((ztb a0.Kind)+5)))))
namespace N330
theorem DD:DOk Tryz.prog (Go.Ab.DD [(368,dP D_ztb)]):=ya yqt.e <| ye _
theorem dn:type_of% (@D_ztb.eq_1):=by and_intros<;>intros<;>rfl
theorem den (a0:Character)  : Den Tryz.prog 330 [.ep (yf a0)] (.int .i64 (zle a0)):=by
 generalize hR:zle a0=r
 unfold zle at hR
 refine di Tryz.func330 Tryz.ntmps330 Tryz.results330 ?_
 intro c hL hc hk
 obtain⟨hL0,_⟩:=hL
 have hw0:bwCharacter a0:=yn a0 hL0
 clear hL0
 simp only[pars,Nat.zero_add]
 iterate 3 refine rS ?_
 refine AWP.cond rfl (fun hb => ?_) (fun hb => ?_)
 ·replace hR:=ct hR
  refine rS ?_
  refine AWP.ret ?_
  subst hR
  exact es
 ·replace hR:=cf hR
  refine rS ?_
  refine AWP.cond rfl (fun hb => ?_) (fun hb => ?_)
  ·replace hR:=ct hR
   refine rS ?_
   refine AWP.ret ?_
   subst hR
   exact es
  ·replace hR:=cf hR
   refine rS ?_
   refine AWP.cond rfl (fun hb => ?_) (fun hb => ?_)
   ·replace hR:=ct hR
    refine rS ?_
    refine AWP.ret ?_
    subst hR
    exact es
   ·replace hR:=cf hR
    iterate 2 refine rS ?_
    refine AWP.cond rfl (fun hb => ?_) (fun hb => ?_)
    ·replace hR:=ct hR
     iterate 2 refine rS ?_
     refine AWP.ret ?_
     subst hR
     exact es
    ·replace hR:=cf hR
     refine rS ?_
     refine AWP.ret ?_
     subst hR
     exact es
end N330
def D_zle : DF
 | [x0]=>some (.int .i64 (zle (rdP yc x0)),false,[wP yf yc x0])
 | _=>none
theorem ydy:OkD Tryz.prog 330 D_zle:=by unfold D_zle;exact dk N330.den
end Go.Ab

namespace Go.Ab
open Go Go.Proofs
def y6o (a0:(List Sector)) (i1:Nat) (s1:List UInt8) (i2:Nat) (s2:List UInt8):Except (Sum ((List UInt8)) (List UInt8)) (List UInt8):=
 (bif (((a0.getD i2 default).Color) == ([[87],[82],[71],[89]].getD i1 default))then .error (.inr (s2++([[87],[82],[71],[89]].getD i1 default)))else .ok s2)
def yuk (a0:(List Sector)) (i1:Nat) (s1:List UInt8):Except ((List UInt8)) (List UInt8):=
 (match yd (y6o a0 i1 s1) (a0.length-0) 0 s1 with|.error (.inl e)=>.error e|.error (.inr s2)=>.ok s2|.ok s2=>.ok s2)
def zec (a0:(List Sector)):(List UInt8):=
 (match yd (yuk a0) (4-0) 0 []with|.error e=>e|.ok s1=>s1)
namespace N201
theorem DD:DOk Tryz.prog (Go.Ab.DD []):=ye _
theorem o0 {p:Prop} (h:p:=by(first|(have h4:=hq4 i1;have h1:=hW1;have h2:=hW2;and_intros<;>omega));first|done|fail):p:=h
theorem lx {p:Prop} (h:p:=by(exact lxx);first|done|fail):p:=h
theorem den (a0:(List Sector)) (hb0:a0.length<1099511627776) (hb1:∀ v∈a0,bdSector v):Den Tryz.prog 201 [encL 3 yj a0] (.str (zec a0)):=by
 generalize hR:zec a0=r
 unfold zec at hR
 refine di Tryz.func201 Tryz.ntmps201 Tryz.results201 ?_
 intro c hL hc hk
 obtain⟨hL0,_⟩:=hL
 have hw0:a0.length<9223372036854775808:=Nat.lt_succ_of_le (ym hL0).1
 have hw1:∀ v∈a0,bwSector v:=fun v hv=>yt v ((ym hL0).2 v hv)
 clear hL0
 simp only[pars,Nat.zero_add]
 have hq4:∀ i:Nat,(([[87],[82],[71],[89]]:List (List UInt8)).getD i default).length≤1:=fun i=>by rcases i with _|_|_|_|i<;>first|exact Nat.le_refl _|exact Nat.zero_le _
 iterate 4 refine rS ?_
 refine AWP.block ?_
 generalize hz1:yd (yuk a0) (4-0) 0 []=z1 at hR
 refine AWP.range (yuk a0) (fun i1 s1=>⟨[(0,encL 3 yj a0),(3,.str s1),(4,.ref 0 1 0 4),(5,.int .i64 (i1:Int))],[.arr 9 1 [[87],[82],[71],[89]].length (fun j=>eS ([[87],[82],[71],[89]].getD j default))]⟩) (fun i1 s1=>s1.length≤i1) (4) 0 [] [0] hz1 ot (by(simp)) sm ?_
 clear hz1
 intro i1 s1 hi1 hW1 hz1
 refine rS ?_
 refine AWP.cond rfl (fun hb => ?_) (fun hb => ?_)
 ·have hlt1:i1<4:=ot
  rw[yh hlt1]at hz1;simp only[yuk]at hz1
  refine rS ?_
  refine AWP.block ?_
  generalize hz2:yd (y6o a0 i1 s1) (a0.length-0) 0 s1=z2 at hz1
  refine AWP.range (y6o a0 i1 s1) (fun i2 s2=>⟨[(0,encL 3 yj a0),(3,.str s2),(4,.ref 0 1 0 4),(5,.int .i64 (i1:Int)),(6,.int .i64 (i2:Int))],[.arr 9 1 [[87],[82],[71],[89]].length (fun j=>eS ([[87],[82],[71],[89]].getD j default))]⟩) (fun i2 s2=>s2.length≤i1) (a0.length) 0 s1 [0] hz2 ot (by(exact hW1)) sm ?_
  clear hz2
  intro i2 s2 hi2 hW2 hz2
  refine rS ?_
  refine AWP.cond rfl (fun hb => ?_) (fun hb => ?_)
  ·have hlt2:i2<a0.length:=ot
   rw[yh hlt2]at hz2;simp only[y6o]at hz2
   refine rD 9 ?_
   refine AWP.cond rfl (fun hb => ?_) (fun hb => ?_)
   ·simp only[hb,cond_true]at hz2
    refine rS ?_
    refine AWP.exit ?_
    refine yse rfl ?_
    refine yb ?_
    subst hz2;dsimp only at hz1
    refine rS ?_
    exact⟨_,[0],hlt1,by(have h4:=hq4 i1;simp only[ln]at *;omega),hz1,sm⟩
   ·simp only[hb,cond_false]at hz2
    refine rS ?_
    exact⟨_,[0],hlt2,by(first|exact hW2|assumption),hz2,sm⟩
  ·obtain rfl:i2=a0.length:=ot
   rw[yg (Nat.le_refl _)]at hz2;subst hz2;dsimp only at hz1
   refine AWP.exit ?_;refine yb ?_
   refine rS ?_
   exact⟨_,[0],hlt1,by(have h4:=hq4 i1;simp only[ln]at *;omega),hz1,sm⟩
 ·obtain rfl:i1=4:=ot
  rw[yg (Nat.le_refl _)]at hz1;subst hz1;dsimp only at hR
  refine AWP.exit ?_;refine yb ?_
  refine rS ?_
  refine AWP.ret ?_
  subst hR
  exact es
end N201
def D_zec : DF
 | [x0]=>some (.str (zec (rdL yp x0)),false,[wL 3 yj yp x0,(rdL yp x0).length<1099511627776,∀ v∈(rdL yp x0),bdSector v])
 | _=>none
theorem y2y:OkD Tryz.prog 201 D_zec:=by unfold D_zec;exact dk N201.den
end Go.Ab

namespace Go.Ab
open Go Go.Proofs
def zwb (a0:Point):Bool:=
 ((zl a0.X 0 200000) && (zl a0.Y 0 200000))
namespace N196
theorem DD:DOk Tryz.prog (Go.Ab.DD [(170,dP D_zl)]):=ya ytf.e <| ye _
theorem dn:type_of% (@D_zl.eq_1):=by and_intros<;>intros<;>rfl
theorem ol:type_of% (@zl.eq_1):=@zl.eq_1
theorem den (a0:Point)  : Den Tryz.prog 196 [.agg (ypc a0)] (.bool (zwb a0)):=by
 generalize hR:zwb a0=r
 unfold zwb at hR
 refine di Tryz.func196 Tryz.ntmps196 Tryz.results196 ?_
 intro c hL hc hk
 clear hL
 simp only[pars,Nat.zero_add]
 iterate 2 refine rS ?_
 refine AWP.ret ?_
 subst hR
 exact es
end N196
def D_zwb : DF
 | [x0]=>some (.bool (zwb (rdG yhe x0)),false,[wG ypc yhe x0])
 | _=>none
theorem yks:OkD Tryz.prog 196 D_zwb:=by unfold D_zwb;exact dk N196.den
end Go.Ab

namespace Go.Ab
open Go Go.Proofs
def zyc (a0:Character):Bool:=
 (((((a0.Kind == 0) && ((a0.Group.length:Int) == 0)) && (a0.Letter == [])) && (a0.Colors == [])) && (a0.Period == 0))
namespace N198
theorem DD:DOk Tryz.prog (Go.Ab.DD []):=ye _
theorem den (a0:Character)  : Den Tryz.prog 198 [.ep (yf a0)] (.bool (zyc a0)):=by
 generalize hR:zyc a0=r
 unfold zyc at hR
 refine di Tryz.func198 Tryz.ntmps198 Tryz.results198 ?_
 intro c hL hc hk
 obtain⟨hL0,_⟩:=hL
 have hw0:bwCharacter a0:=yn a0 hL0
 clear hL0
 simp only[pars,Nat.zero_add]
 iterate 2 refine rS ?_
 refine AWP.ret ?_
 subst hR
 exact es
end N198
def D_zyc : DF
 | [x0]=>some (.bool (zyc (rdP yc x0)),false,[wP yf yc x0])
 | _=>none
theorem yjz:OkD Tryz.prog 198 D_zyc:=by unfold D_zyc;exact dk N198.den
end Go.Ab

namespace Go.Ab
open Go Go.Proofs
def zmf (a0:Aid):Bool:=
 (a0.Light.Kind != 0)
end Go.Ab

namespace Go.Ab
open Go Go.Proofs
def zdb  : (List (List UInt8)):=
 ([[110,111,110,101],[108,101,102,116],[114,105,103,104,116],[110,111,114,116,104],[101,97,115,116],[115,111,117,116,104],[119,101,115,116],[100,97,110,103,101,114],[115,97,102,101],[115,112,101,99,105,97,108]]:List (List UInt8))
namespace N333
theorem DD:DOk Tryz.prog (Go.Ab.DD []):=ye _
theorem lx {p:Prop} (h:p:=by(exact lxx);first|done|fail):p:=h
theorem den   : Den Tryz.prog 333 [] (ownL 9 1 eS (zdb)):=by
 generalize hR:zdb=r
 unfold zdb at hR
 refine di Tryz.func333 Tryz.ntmps333 Tryz.results333 ?_
 intro c hL hc hk
 clear hL
 simp only[pars,Nat.zero_add]
 iterate 2 refine rS ?_
 refine AWP.ret ?_
 subst hR
 exact es
end N333
def D_zdb : DF
 | []=>some (ownL 9 1 eS zdb,false,[])
 | _=>none
def Dz_zdb : DF
 | []=>some (ownL 9 1 eS zdb,true,[])
 | _=>none
theorem ynr:OkD Tryz.prog 333 D_zdb:=by unfold D_zdb;exact dk N333.den
theorem y6v:OkD Tryz.prog 333 Dz_zdb:=by unfold Dz_zdb;exact dk N333.den
end Go.Ab

namespace Go.Ab
open Go Go.Proofs
def zm  : (List (List UInt8)):=
 ([[],[70],[79,99],[73,115,111],[70,108],[76,70,108],[81],[86,81],[77,111]]:List (List UInt8))
namespace N279
theorem DD:DOk Tryz.prog (Go.Ab.DD []):=ye _
theorem lx {p:Prop} (h:p:=by(exact lxx);first|done|fail):p:=h
theorem den   : Den Tryz.prog 279 [] (ownL 9 1 eS (zm)):=by
 generalize hR:zm=r
 unfold zm at hR
 refine di Tryz.func279 Tryz.ntmps279 Tryz.results279 ?_
 intro c hL hc hk
 clear hL
 simp only[pars,Nat.zero_add]
 iterate 2 refine rS ?_
 refine AWP.ret ?_
 subst hR
 exact es
end N279
def D_zm : DF
 | []=>some (ownL 9 1 eS zm,false,[])
 | _=>none
def Dz_zm : DF
 | []=>some (ownL 9 1 eS zm,true,[])
 | _=>none
theorem y9u:OkD Tryz.prog 279 D_zm:=by unfold D_zm;exact dk N279.den
theorem ywz:OkD Tryz.prog 279 Dz_zm:=by unfold Dz_zm;exact dk N279.den
end Go.Ab

namespace Go.Ab
open Go Go.Proofs
def yap (a0:Int) (s1:Int×List Int):Except (Sum ((List UInt8)) (Int×List Int)) (Int×List Int):=
 (bif (s1.1 != 0)then(bif decide ((s1.1.tmod 10)<0)then .ok (IntKind.wrap .i64 (s1.1.tdiv 10),s1.2++([IntKind.wrap .u8 (IntKind.wrap .i64 (48+(IntKind.wrap .i64 (0-(s1.1.tmod 10)))))]:List Int))else .ok (IntKind.wrap .i64 (s1.1.tdiv 10),s1.2++([IntKind.wrap .u8 (IntKind.wrap .i64 (48+(s1.1.tmod 10)))]:List Int)))else .error (.inr (s1.1,s1.2)))
def y3q (a0:Int) (s1:Int×List Int) (s2:Int×List Int):Except (Sum ((List UInt8)) (Int×List Int)) (Int×List Int):=
 (bif decide (0≤s2.1)then .ok (IntKind.wrap .i64 (s2.1-1),s2.2++([((s1.2++([45]:List Int)).getD ((s2.1).toNat) default)]:List Int))else .error (.inr (s2.1,s2.2)))
def y8p (a0:Int) (s1:Int×List Int) (s3:Int×List Int):Except (Sum ((List UInt8)) (Int×List Int)) (Int×List Int):=
 (bif decide (0≤s3.1)then .ok (IntKind.wrap .i64 (s3.1-1),s3.2++([(s1.2.getD ((s3.1).toNat) default)]:List Int))else .error (.inr (s3.1,s3.2)))
def zi (a0:Int):(List UInt8):=
 (bif (a0 == 0)then[48]else(match y6 (yap a0) (((a0).natAbs)+1) (a0,([]:List Int))with|.error (.inl e)=>e|.error (.inr s1)=>(bif decide (a0<0)then(match y6 (y3q a0 s1) ((((IntKind.wrap .i64 ((s1.2.length+1:Int)-1))+1).toNat)+1) (IntKind.wrap .i64 ((s1.2.length+1:Int)-1),([]:List Int))with|.error (.inl e)=>e|.error (.inr s2)=>(s2.2.map fun z=>UInt8.ofNat z.toNat)|.ok _=>default)else(match y6 (y8p a0 s1) ((((IntKind.wrap .i64 ((s1.2.length:Int)-1))+1).toNat)+1) (IntKind.wrap .i64 ((s1.2.length:Int)-1),([]:List Int))with|.error (.inl e)=>e|.error (.inr s3)=>(s3.2.map fun z=>UInt8.ofNat z.toNat)|.ok _=>default))|.ok _=>default))
namespace N166
theorem DD:DOk Tryz.prog (Go.Ab.DD []):=ye _
theorem den (a0:Int) (hp0 : -1000000000000≤a0) (hp1:a0≤1000000000000):Den Tryz.prog 166 [.int .i64 a0] (.str (zi a0)):=by
 generalize hR:zi a0=r
 unfold zi at hR
 refine di Tryz.func166 Tryz.ntmps166 Tryz.results166 ?_
 intro c hL hc hk
 clear hL
 simp only[pars,Nat.zero_add]
 iterate 2 refine rS ?_
 refine AWP.cond rfl (fun hb => ?_) (fun hb => ?_)
 ·replace hR:=ct hR
  refine rS ?_
  refine AWP.ret ?_
  subst hR
  exact es
 ·replace hR:=cf hR
  iterate 2 refine rS ?_
  refine AWP.block ?_
  generalize hz1:y6 (yap a0) (((a0).natAbs)+1) (a0,([]:List Int))=z1 at hR
  refine AWP.whileW (yap a0) (fun s1=>⟨[(0,.int .i64 a0),(3,.ref 0 1 0 s1.2.length),(4,.int .i64 s1.1)],[.arr 5 1 s1.2.length (fun j=>eIu8 (s1.2.getD j default))]⟩) (fun s1 => -1000000000000≤s1.1∧s1.1≤1000000000000∧s1.2.length+(s1.1).natAbs≤1000000000000) (fun s1=>(s1.1).natAbs) (((a0).natAbs)+1) (a0,([]:List Int)) [0] hz1 m0 wt sm ?_
  clear hz1
  intro s1 k1 hW1 hm1 hz1
  simp only[yap]at hz1
  refine rS ?_
  refine AWP.cond rfl (fun hb => ?_) (fun hb => ?_)
  ·simp only[hb,cond_true]at hz1
   iterate 2 refine rS ?_
   refine AWP.cond rfl (fun hb => ?_) (fun hb => ?_)
   ·simp only[hb,cond_true]at hz1
    iterate 3 refine rS ?_
    exact⟨_,[2],by(have h10:=yij s1.1;simp only[ob,ln,ol]at *;omega),by(have h10:=yij s1.1;refine⟨?_,?_,?_⟩<;>simp only[ob,ln,ol]at * <;> omega),hz1,sm⟩
   ·simp only[hb,cond_false]at hz1
    iterate 2 refine rS ?_
    exact⟨_,[2],by(have h10:=yij s1.1;simp only[ob,ln,ol]at *;omega),by(have h10:=yij s1.1;refine⟨?_,?_,?_⟩<;>simp only[ob,ln,ol]at * <;> omega),hz1,sm⟩
  ·simp only[hb,cond_false]at hz1
   refine AWP.exit ?_
   refine yb ?_
   subst hz1;dsimp only at hR
   refine rS ?_
   refine AWP.cond rfl (fun hb => ?_) (fun hb => ?_)
   ·replace hR:=ct hR
    iterate 3 refine rS ?_
    refine AWP.block ?_
    generalize hz2:y6 (y3q a0 (s1.1,s1.2)) ((((IntKind.wrap .i64 ((s1.2.length+1:Int)-1))+1).toNat)+1) (IntKind.wrap .i64 ((s1.2.length+1:Int)-1),([]:List Int))=z2 at hR
    refine AWP.whileW (y3q a0 (s1.1,s1.2)) (fun s2=>⟨[(3,.ref 0 1 0 (s1.2.length+1)),(6,.ref 1 1 0 s2.2.length),(7,.int .i64 s2.1)],[.arr 5 1 (s1.2++([45]:List Int)).length (fun j=>eIu8 ((s1.2++([45]:List Int)).getD j default)),.arr 5 1 s2.2.length (fun j=>eIu8 (s2.2.getD j default))]⟩) (fun s2 => -1≤s2.1∧s2.1≤s1.2.length∧s2.1≤1000000000000∧s2.2.length+(s2.1+1).toNat≤1000000000001) (fun s2=>(s2.1+1).toNat) ((((IntKind.wrap .i64 ((s1.2.length+1:Int)-1))+1).toNat)+1) (IntKind.wrap .i64 ((s1.2.length+1:Int)-1),([]:List Int)) [2,3] hz2 m0 wt sm ?_
    clear hz2
    intro s2 k2 hW2 hm2 hz2
    simp only[y3q]at hz2
    refine rS ?_
    refine AWP.cond rfl (fun hb => ?_) (fun hb => ?_)
    ·simp only[hb,cond_true]at hz2
     iterate 2 refine rS ?_
     exact⟨_,[0,3],ms,wt,hz2,sm⟩
    ·simp only[hb,cond_false]at hz2
     refine AWP.exit ?_
     refine yb ?_
     subst hz2;dsimp only at hR
     refine rS ?_
     refine AWP.ret ?_
     subst hR
     exact es
   ·replace hR:=cf hR
    iterate 2 refine rS ?_
    refine AWP.block ?_
    generalize hz3:y6 (y8p a0 (s1.1,s1.2)) ((((IntKind.wrap .i64 ((s1.2.length:Int)-1))+1).toNat)+1) (IntKind.wrap .i64 ((s1.2.length:Int)-1),([]:List Int))=z3 at hR
    refine AWP.whileW (y8p a0 (s1.1,s1.2)) (fun s3=>⟨[(3,.ref 0 1 0 s1.2.length),(6,.ref 1 1 0 s3.2.length),(7,.int .i64 s3.1)],[.arr 5 1 s1.2.length (fun j=>eIu8 (s1.2.getD j default)),.arr 5 1 s3.2.length (fun j=>eIu8 (s3.2.getD j default))]⟩) (fun s3 => -1≤s3.1∧s3.1<s1.2.length∧s3.1≤1000000000000∧s3.2.length+(s3.1+1).toNat≤1000000000001) (fun s3=>(s3.1+1).toNat) ((((IntKind.wrap .i64 ((s1.2.length:Int)-1))+1).toNat)+1) (IntKind.wrap .i64 ((s1.2.length:Int)-1),([]:List Int)) [0,1] hz3 m0 wt sm ?_
    clear hz3
    intro s3 k3 hW3 hm3 hz3
    simp only[y8p]at hz3
    refine rS ?_
    refine AWP.cond rfl (fun hb => ?_) (fun hb => ?_)
    ·simp only[hb,cond_true]at hz3
     iterate 2 refine rS ?_
     exact⟨_,[0,3],ms,wt,hz3,sm⟩
    ·simp only[hb,cond_false]at hz3
     refine AWP.exit ?_
     refine yb ?_
     subst hz3;dsimp only at hR
     refine rS ?_
     refine AWP.ret ?_
     subst hR
     exact es
end N166
def D_zi : DF
 | [x0]=>some (.str (zi (rdI x0)),false,[wI .i64 x0,-1000000000000≤(rdI x0),(rdI x0)≤1000000000000])
 | _=>none
theorem yzq:OkD Tryz.prog 166 D_zi:=by unfold D_zi;exact dk N166.den
end Go.Ab




namespace Go.Ab
open Go Go.Proofs
def yuu (a0:(List UInt8)) (a1:Int) (i1:Nat) (s1:Int×List (List UInt8)):Except ((List (List UInt8))) (Int×List (List UInt8)):=
 (bif (((a0.getD i1 0).toNat:Int) == a1)then .ok (IntKind.wrap .i64 ((i1:Int)+1),s1.2++[(a0.take i1).drop ((s1.1).toNat)])else .ok (s1.1,s1.2))
def za (a0:(List UInt8)) (a1:Int):(List (List UInt8)):=
 (match yd (yuu a0 a1) (a0.length-0) 0 (0,([]:List (List UInt8)))with|.error e=>e|.ok s1=>s1.2++[(a0.take a0.length).drop ((s1.1).toNat)])
namespace N165
theorem DD:DOk Tryz.prog (Go.Ab.DD []):=ye _
theorem den (a0:(List UInt8)) (a1:Int) (hb0:a0.length<1099511627776) (hp0:a0.length≤1048576):Den Tryz.prog 165 [.str a0,.int .u8 a1] (ownL 9 1 eS (za a0 a1)):=by
 generalize hR:za a0 a1=r
 unfold za at hR
 refine di Tryz.func165 Tryz.ntmps165 Tryz.results165 ?_
 intro c hL hc hk
 obtain⟨hL0,hL1,_⟩:=hL
 have hw0:a0.length<9223372036854775808:=Nat.lt_succ_of_le hL0
 clear hL0 hL1
 simp only[pars,Nat.zero_add]
 iterate 4 refine rS ?_
 refine AWP.block ?_
 generalize hz1:yd (yuu a0 a1) (a0.length-0) 0 (0,([]:List (List UInt8)))=z1 at hR
 refine AWP.range (yuu a0 a1) (fun i1 s1=>⟨[(0,.str a0),(1,.int .u8 a1),(5,.ref 0 1 0 s1.2.length),(6,.int .i64 s1.1),(7,.int .i64 (i1:Int))],[.arr 9 1 s1.2.length (fun j=>eS (s1.2.getD j default))]⟩) (fun i1 s1=>s1.2.length≤([]:List (List UInt8)).length+1 * i1∧0≤s1.1∧s1.1≤i1∧s1.2.length≤i1) (a0.length) 0 (0,([]:List (List UInt8))) [0] hz1 ot wt sm ?_
 clear hz1
 intro i1 s1 hi1 hW1 hz1
 refine rS ?_
 refine AWP.cond rfl (fun hb => ?_) (fun hb => ?_)
 ·have hlt1:i1<a0.length:=ot
  rw[yh hlt1]at hz1;simp only[yuu]at hz1
  refine rS ?_
  refine AWP.cond rfl (fun hb => ?_) (fun hb => ?_)
  ·simp only[hb,cond_true]at hz1
   iterate 3 refine rS ?_
   exact⟨_,[2],hlt1,wt,hz1,sm⟩
  ·simp only[hb,cond_false]at hz1
   refine rS ?_
   exact⟨_,[0],hlt1,wt,hz1,sm⟩
 ·obtain rfl:i1=a0.length:=ot
  rw[yg (Nat.le_refl _)]at hz1;subst hz1;dsimp only at hR
  refine AWP.exit ?_;refine yb ?_
  refine rS ?_
  refine AWP.ret ?_
  subst hR
  exact es
end N165
def D_za : DF
 | [x0,x1]=>some (ownL 9 1 eS (za (rdS x0) (rdI x1)),false,[wS x0,wI .u8 x1,(rdS x0).length<1099511627776,(rdS x0).length≤1048576])
 | _=>none
theorem y9g:OkD Tryz.prog 165 D_za:=by unfold D_za;exact dk N165.den
end Go.Ab

namespace Go.Ab
open Go Go.Proofs
theorem y9d (a:List UInt8) (c:UInt8) (ha:a.length≤1099511627776):∀ (k i f:Nat) (out:List (List UInt8)),i+k=a.length→f≤i→(∀ j,f≤j→j<i→a.getD j 0≠c) →
  ∃ s:Int×List (List UInt8),yd (yuu a c.toNat) k i ((f:Int),out)=.ok s∧s.2++[(a.take a.length).drop s.1.toNat]=out++yl c (a.drop f)
 | 0,i,f,out,hk,hf,hn=>by
  refine⟨_,rfl,?_⟩
  simp only[Int.toNat_natCast,List.take_length]
  rw[ylb]
  intro hc
  obtain⟨j,hj⟩:=List.getElem?_of_mem hc
  rw[List.getElem?_drop]at hj
  have hlt:=(List.getElem?_eq_some_iff.1 hj).1
  refine hn (f+j) (by omega) (by omega) ?_
  rw[List.getD_eq_getElem?_getD,hj];rfl
 | k+1,i,f,out,hk,hf,hn=>by
  have hlt:i<a.length:=by omega
  simp only[yd,yuu]
  by_cases hc:a.getD i 0=c
  ·have hb:(((a.getD i 0).toNat:Int) == (c.toNat:Int))=true:=by rw[hc];simp
   simp only[hb,cond_true,Int.toNat_natCast]
   have hw:IntKind.wrap .i64 ((i:Int)+1)=((i+1:Nat):Int):=by rw[IntKind.wrap_i64];omega
   rw[hw]
   obtain⟨s,h1,h2⟩:=y9d a c ha k (i+1) (i+1) (out++[(a.take i).drop f]) (by omega) (Nat.le_refl _) (fun j h1 h2=>by omega)
   refine⟨s,h1,?_⟩
   rw[h2,List.append_assoc]
   congr 1
   have he:a.drop f=(a.take i).drop f++c::a.drop (i+1):=by
    have h3:a=a.take i++c::a.drop (i+1):=by
     conv=>lhs;rw[← List.take_append_drop i a]
     rw[List.drop_eq_getElem_cons hlt]
     congr 2
     rw[← hc,List.getD_eq_getElem?_getD,List.getElem?_eq_getElem hlt];rfl
    conv=>lhs;rw[h3]
    rw[List.drop_append_of_le_length (by simp;omega)]
   rw[he,ykb]
   ·rfl
   ·intro hm
    obtain⟨j,hj⟩:=List.getElem?_of_mem hm
    rw[List.getElem?_drop]at hj
    have hl:=(List.getElem?_eq_some_iff.1 hj).1
    simp only[List.length_take]at hl
    rw[List.getElem?_take_of_lt (by omega)]at hj
    refine hn (f+j) (by omega) (by omega) ?_
    rw[List.getD_eq_getElem?_getD,hj];rfl
  ·have hb:(((a.getD i 0).toNat:Int) == (c.toNat:Int))=false:=by
    simp only[beq_eq_false_iff_ne]
    intro h
    exact hc (UInt8.toNat_inj.1 (by omega))
   simp only[hb,cond_false]
   exact y9d a c ha k (i+1) f out (by omega) (by omega) (fun j h1 h2=>by
    by_cases hji:j=i
    ·subst hji;exact hc
    ·exact hn j h1 (by omega))
theorem y4j (a:List UInt8) (c:UInt8) (ha:a.length≤1099511627776):za a c.toNat=yl c a:=by
 obtain⟨s,h1,h2⟩:=y9d a c ha a.length 0 0 [] (by omega) (Nat.le_refl _) (fun j h1 h2=>by omega)
 unfold za
 simp only[Nat.sub_zero]
 rw[show((0:Int),([]:List (List UInt8)))=(((0:Nat):Int),[])from rfl,h1]
 simpa using h2
theorem yt3 (a:List UInt8) (ha:a.length≤1048576):∀ x∈za a 32,x.length≤1048576:=by
 intro x hx
 rw[show(32:Int)=(((32:UInt8).toNat:Nat):Int)from rfl,y4j a 32 (by omega)]at hx
 have:=(y3 32 a).2 x hx
 omega
end Go.Ab

namespace Go.Ab
open Go Go.Proofs
theorem yw (a:List UInt8) (h:a.length≤1048576):(za a 43).length≤1048577:=by
 rw[show za a 43=yl 43 a from y4j a 43 (by omega)]
 have:=(y3 43 a).1
 omega
theorem y6b (a:List UInt8) (i:Nat) (h:a.length≤1048576):((za a 43).getD i default).length≤1048576:=by
 rw[show za a 43=yl 43 a from y4j a 43 (by omega),List.getD_eq_getElem?_getD]
 cases hg:(yl 43 a)[i]? with
 | none=>show(0:Nat)≤1048576;omega
 | some x=>have:=(y3 43 a).2 x (List.mem_of_getElem? hg);simp only[Option.getD_some];omega
end Go.Ab

namespace Go.Ab
open Go Go.Proofs
theorem yev {l:List (List UInt8)} {m:Nat} (h:∀ x∈l,x.length≤m) (i:Nat):(l.getD i default).length≤m:=by
 rw[List.getD_eq_getElem?_getD]
 cases hg:l[i]? with
 | none=>exact Nat.zero_le _
 | some x=>exact h x (List.mem_of_getElem? hg)
theorem yge (a:List UInt8) (n:Int) (c:UInt8) (hc:(c.toNat:Int)=n) (ha:a.length≤1048576) (i:Nat):((za a n).getD i default).length≤a.length:=by
 rw[← hc,y4j a c (by omega)]
 exact yev (y3 c a).2 i
theorem ym2 (a:List UInt8) (n:Int) (c:UInt8) (hc:(c.toNat:Int)=n) (ha:a.length≤1048576):(za a n).length≤a.length+1:=by
 rw[← hc,y4j a c (by omega)]
 exact(y3 c a).1
theorem y2s (a:List UInt8) (c:UInt8) (i:Nat):((zd a [c]).getD i default).length≤a.length:=yev (y3 c a).2 i
theorem ys0 (a:List UInt8) (c:UInt8):(zd a [c]).length≤a.length+1:=(y3 c a).1
theorem ybx {y:List UInt8} (h:y≠[]) (hl:y.length≤1048576):IntKind.wrap .i64 ((y.length:Int)-1)=(y.length:Int)-1∧(List.take (IntKind.wrap .i64 ((y.length:Int)-1)).toNat y).length≤1048576∧1≤y.length:=by
 have:=List.length_pos_iff.2 h
 refine⟨by rw[IntKind.wrap_i64];omega,?_,this⟩
 rw[List.length_take];omega
end Go.Ab

namespace Go.Ab
open Go Go.Proofs
def zpb (a0:(List UInt8)):(Point×Bool):=
 (bif (((za a0 44).length:Int) != 2)then({ X:=0,Y:=0:Point },false)else(bif (((!((zg ((za a0 44).getD 0 default)).2)) || (!((zg ((za a0 44).getD 1 default)).2))) || (!(zwb ({ X:=(zg ((za a0 44).getD 0 default)).1,Y:=(zg ((za a0 44).getD 1 default)).1:Point }))))then({ X:=0,Y:=0:Point },false)else({ X:=(zg ((za a0 44).getD 0 default)).1,Y:=(zg ((za a0 44).getD 1 default)).1:Point },true)))
namespace N230
theorem DD:DOk Tryz.prog (Go.Ab.DD [(165,dP D_za),(168,dP D_zg),(196,dP D_zwb)]):=ya y9g.e <| ya y1l.e <| ya yks.e <| ye _
theorem dn:type_of% (And.intro @D_za.eq_1 <| And.intro @D_zg.eq_1 <| @D_zwb.eq_1):=by and_intros<;>intros<;>rfl
theorem gr {p:Prop} (h:p:=by(grind [yw,y6b]);first|done|fail):p:=h
set_option maxHeartbeats 1000000 in
set_option maxRecDepth 20000 in
theorem den (a0:(List UInt8)) (hb0:a0.length<1099511627776) (hp0:a0.length≤1048576):Den Tryz.prog 230 [.str a0] (.tup [.agg (ypc ((zpb a0).1)),.bool ((zpb a0).2)]):=by
 generalize hR:zpb a0=r
 unfold zpb at hR
 refine di Tryz.func230 Tryz.ntmps230 Tryz.results230 ?_
 intro c hL hc hk
 obtain⟨hL0,_⟩:=hL
 have hw0:a0.length<9223372036854775808:=Nat.lt_succ_of_le hL0
 clear hL0
 simp only[pars,Nat.zero_add]
 have s0_:=yge a0 44 44 rfl (by omega) 0
 have s1_:=yge a0 44 44 rfl (by omega) 1
 iterate 3 refine rS ?_
 refine AWP.cond rfl (fun hb => ?_) (fun hb => ?_)
 ·replace hR:=ct hR
  refine rS ?_
  refine AWP.ret ?_
  subst hR
  exact es
 ·replace hR:=cf hR
  iterate 4 refine rS ?_
  refine AWP.cond rfl (fun hb => ?_) (fun hb => ?_)
  ·replace hR:=ct hR
   refine rS ?_
   refine AWP.ret ?_
   subst hR
   exact es
  ·replace hR:=cf hR
   refine rS ?_
   refine AWP.ret ?_
   subst hR
   exact es
end N230
def D_zpb : DF
 | [x0]=>some (.tup [.agg (ypc ((zpb (rdS x0)).1)),.bool ((zpb (rdS x0)).2)],false,[wS x0,(rdS x0).length<1099511627776,(rdS x0).length≤1048576])
 | _=>none
theorem ywx:OkD Tryz.prog 230 D_zpb:=by unfold D_zpb;exact dk N230.den
end Go.Ab

namespace Go.Ab
open Go Go.Proofs
def yvr (a0:(List UInt8)) (i1:Nat) (s1:Unit):Except (Int) (Unit):=
 (bif (((zdb ).getD i1 default) == a0)then .error (i1:Int)else .ok ())
def ztc (a0:(List UInt8)):Int:=
 (match yd (yvr a0) (((zdb ).length)-0) 0 ()with|.error e=>e|.ok s1=>(-1))
namespace N345
theorem DD:DOk Tryz.prog (Go.Ab.DD [(333,dP D_zdb)]):=ya ynr.e <| ye _
theorem dn:type_of% (@D_zdb.eq_1):=by and_intros<;>intros<;>rfl
theorem den (a0:(List UInt8))  : Den Tryz.prog 345 [.str a0] (.int .i64 (ztc a0)):=by
 generalize hR:ztc a0=r
 unfold ztc at hR
 refine di Tryz.func345 Tryz.ntmps345 Tryz.results345 ?_
 intro c hL hc hk
 obtain⟨hL0,_⟩:=hL
 have hw0:a0.length<9223372036854775808:=Nat.lt_succ_of_le hL0
 clear hL0
 simp only[pars,Nat.zero_add]
 have hn2:zdb.length=10:=rfl
 iterate 3 refine rS ?_
 refine AWP.block ?_
 generalize hz1:yd (yvr a0) (((zdb ).length)-0) 0 ()=z1 at hR
 refine AWP.range (yvr a0) (fun i1 s1=>⟨[(0,.str a0),(3,.ref 0 1 0 ((zdb ).length)),(4,.int .i64 (i1:Int))],[.arr 9 1 (zdb ).length (fun j=>eS ((zdb ).getD j default))]⟩) (fun i1 s1=>True) (((zdb ).length)) 0 () [0] hz1 ot wt sm ?_
 clear hz1
 intro i1 s1 hi1 hW1 hz1
 refine rS ?_
 refine AWP.cond rfl (fun hb => ?_) (fun hb => ?_)
 ·have hlt1:i1<((zdb ).length):=ot
  rw[yh hlt1]at hz1;simp only[yvr]at hz1
  refine rS ?_
  refine AWP.cond rfl (fun hb => ?_) (fun hb => ?_)
  ·simp only[hb,cond_true]at hz1
   refine rS ?_
   refine AWP.ret ?_
   subst hz1
   dsimp only at hR
   subst hR
   exact es
  ·simp only[hb,cond_false]at hz1
   refine rS ?_
   exact⟨_,[0],hlt1,wt,hz1,sm⟩
 ·obtain rfl:i1=((zdb ).length):=ot
  rw[yg (Nat.le_refl _)]at hz1;subst hz1;dsimp only at hR
  refine AWP.exit ?_;refine yb ?_
  refine rS ?_
  refine AWP.ret ?_
  subst hR
  exact es
end N345
def D_ztc : DF
 | [x0]=>some (.int .i64 (ztc (rdS x0)),false,[wS x0])
 | _=>none
theorem ymy:OkD Tryz.prog 345 D_ztc:=by unfold D_ztc;exact dk N345.den
end Go.Ab

namespace Go.Ab
open Go Go.Proofs
def ylf (a0:(List UInt8)) (i1:Nat) (s1:List Sector):Except (((List Sector)×Bool)) (List Sector):=
 (bif ((((za ((za a0 44).getD i1 default) 45).length:Int) != 2) || decide ((((za ((za a0 44).getD i1 default) 45).getD 1 default).length:Int)<2))then .error ([],false)else(bif ((!((zg ((za ((za a0 44).getD i1 default) 45).getD 0 default)).2)) || (!((zg (((za ((za a0 44).getD i1 default) 45).getD 1 default).take ((IntKind.wrap .i64 ((((za ((za a0 44).getD i1 default) 45).getD 1 default).length:Int)-1)).toNat))).2)))then .error ([],false)else .ok (s1++[{ From:=(zg ((za ((za a0 44).getD i1 default) 45).getD 0 default)).1,To:=(zg (((za ((za a0 44).getD i1 default) 45).getD 1 default).take ((IntKind.wrap .i64 ((((za ((za a0 44).getD i1 default) 45).getD 1 default).length:Int)-1)).toNat))).1,Color:=(((za ((za a0 44).getD i1 default) 45).getD 1 default).take (((za ((za a0 44).getD i1 default) 45).getD 1 default).length)).drop ((IntKind.wrap .i64 ((((za ((za a0 44).getD i1 default) 45).getD 1 default).length:Int)-1)).toNat):Sector }])))
def zab (a0:(List UInt8)):((List Sector)×Bool):=
 (bif (a0 == [45])then(([]:List Sector),true)else(bif decide (12<((za a0 44).length:Int))then([],false)else(match yd (ylf a0) (((za a0 44).length)-0) 0 ([]:List Sector)with|.error e=>e|.ok s1=>(bif (!(zq s1))then([],false)else(s1,true)))))
namespace N232
theorem DD:DOk Tryz.prog (Go.Ab.DD [(165,dP D_za),(168,dP D_zg),(200,dP D_zq)]):=ya y9g.e <| ya y1l.e <| ya ytw.e <| ye _
theorem dn:type_of% (And.intro @D_za.eq_1 <| And.intro @D_zg.eq_1 <| @D_zq.eq_1):=by and_intros<;>intros<;>rfl
theorem gr {p:Prop} (h:p:=by(grind [yw,y6b]);first|done|fail):p:=h
theorem o0 {p:Prop} (h:p:=by(first|(obtain⟨q0,q1,q2,q3⟩:=hlo i1 (by assumption);have h1:=e1 i1;have h2:=e3 i1 0;have h3:=e3 i1 1;(repeat' with_reducible apply And.intro)<;>first|with_reducible assumption|exact q2|(rw[q1];omega)|omega)|(have h1:=e1 i1;have h2:=e3 i1 0;have h3:=e3 i1 1;(repeat' with_reducible apply And.intro)<;>first|with_reducible assumption|omega|(intros;omega))|(obtain⟨w1,w2,w3⟩:=hW1;(repeat' with_reducible apply And.intro)<;>first|with_reducible assumption|omega)|((repeat' with_reducible apply And.intro)<;>omega));first|done|fail):p:=h
theorem o2 {p:Prop} (h:p:=by(first|((repeat' with_reducible apply And.intro)<;>first|(simp only[List.length_append,List.length_singleton];(first|done|fail))|(rw[IntKind.wrap_i64];omega)|(intro j hj;by_cases hji:j<s1.length;(focus(simp only[yk1 hji,yp4 hji,cond_true];first|(first|done|fail)|with_reducible rfl));(have e0:j-s1.length=0:=by omega);(simp only[y21 hji hj,y63 hji,cond_false,e0,elt,borrowL,borrow];first|(first|done|fail)|with_reducible rfl))|decide));first|done|fail):p:=h
set_option maxHeartbeats 1000000 in
set_option maxRecDepth 20000 in
theorem den (a0:(List UInt8)) (hb0:a0.length<1099511627776) (hp0:a0.length≤1048576):Den Tryz.prog 232 [.str a0] (.tup [ownL 188 3 yj ((zab a0).1),.bool ((zab a0).2)]):=by
 generalize hR:zab a0=r
 unfold zab at hR
 refine di Tryz.func232 Tryz.ntmps232 Tryz.results232 ?_
 intro c hL hc hk
 obtain⟨hL0,_⟩:=hL
 have hw0:a0.length<9223372036854775808:=Nat.lt_succ_of_le hL0
 clear hL0
 simp only[pars,Nat.zero_add]
 have e1:=fun i=>yge a0 44 44 rfl (by omega) i
 have e2:=ym2 a0 44 44 rfl (by omega)
 have e3:=fun i k:Nat=>yge ((za a0 44).getD i default) 45 45 rfl (by have:=e1 i;omega) k
 have hlo:∀ (i:Nat),((((za ((za a0 44).getD i default) 45).length:Int) != 2) || decide ((((za ((za a0 44).getD i default) 45).getD 1 default).length:Int)<2))=false→_:=fun i h=>And.intro (show(za ((za a0 44).getD i default) 45).length=2 by rw[Bool.or_eq_false_iff]at h;have h:=h.1;simp only[bne_eq_false_iff_eq]at h;omega) (ybx (y:=((za ((za a0 44).getD i default) 45).getD 1 default)) (by intro e;rw[Bool.or_eq_false_iff]at h;have h:=h.2;rw[e]at h;exact absurd h (by decide)) (by have h1:=e1 i;have h2:=e3 i 1;omega))
 iterate 2 refine rS ?_
 refine AWP.cond rfl (fun hb => ?_) (fun hb => ?_)
 ·replace hR:=ct hR
  refine rS ?_
  refine AWP.ret ?_
  subst hR
  exact es
 ·replace hR:=cf hR
  iterate 2 refine rS ?_
  refine AWP.cond rfl (fun hb => ?_) (fun hb => ?_)
  ·replace hR:=ct hR
   refine rS ?_
   refine AWP.ret ?_
   subst hR
   exact es
  ·replace hR:=cf hR
   iterate 2 refine rS ?_
   refine AWP.block ?_
   generalize hz1:yd (ylf a0) (((za a0 44).length)-0) 0 ([]:List Sector)=z1 at hR
   refine AWP.range (ylf a0) (fun i1 s1=>⟨[(4,.ref 0 1 0 ((za a0 44).length)),(5,.ref 1 3 0 s1.length),(6,.int .i64 (i1:Int))],[.arr 9 1 (za a0 44).length (fun j=>eS ((za a0 44).getD j default)),.arr 188 3 s1.length (fun j=>yj (s1.getD j default))]⟩) (fun i1 s1=>s1.length≤([]:List Sector).length+1 * i1∧s1.length≤i1∧∀ v∈s1,bdSector v) (((za a0 44).length)) 0 ([]:List Sector) [0,1] hz1 ot (by(simp)) sm ?_
   clear hz1
   intro i1 s1 hi1 hW1 hz1
   have hV1:=hW1;obtain⟨hV1_0,hV1_1,hV1_2⟩:=hV1
   refine rS ?_
   refine AWP.cond rfl (fun hb => ?_) (fun hb => ?_)
   ·have hlt1:i1<((za a0 44).length):=ot
    rw[yh hlt1]at hz1;simp only[ylf]at hz1
    iterate 2 refine rS ?_
    refine AWP.cond rfl (fun hb => ?_) (fun hb => ?_)
    ·simp only[hb,cond_true]at hz1
     refine rS ?_
     refine AWP.ret ?_
     subst hz1
     dsimp only at hR
     subst hR
     exact es
    ·simp only[hb,cond_false]at hz1
     iterate 4 refine rS ?_
     refine AWP.cond rfl (fun hb => ?_) (fun hb => ?_)
     ·simp only[hb,cond_true]at hz1
      refine rS ?_
      refine AWP.ret ?_
      subst hz1
      dsimp only at hR
      subst hR
      exact es
     ·simp only[hb,cond_false]at hz1
      iterate 2 refine rS ?_
      exact⟨_,[0,4],hlt1,by(have h1:=e1 i1;have c1:=e3 i1 1;obtain⟨w0,w1,w2⟩:=hW1;refine⟨by simp only[List.length_append,List.length_cons,List.length_nil,List.length_singleton];omega,by simp only[List.length_append,List.length_cons,List.length_nil,List.length_singleton];omega,fun v hv=>(List.mem_append.1 hv).elim (fun h=>w2 v h) (fun h=>by rw[List.mem_singleton]at h;subst h;show List.length _<1099511627776;simp only[List.length_drop,List.length_take];omega)⟩),hz1,sm⟩
   ·obtain rfl:i1=((za a0 44).length):=ot
    rw[yg (Nat.le_refl _)]at hz1;subst hz1;dsimp only at hR
    refine AWP.exit ?_;refine yb ?_
    refine rS ?_
    refine AWP.cond rfl (fun hb => ?_) (fun hb => ?_)
    ·replace hR:=ct hR
     refine rS ?_
     refine AWP.ret ?_
     subst hR
     exact es
    ·replace hR:=cf hR
     refine rS ?_
     refine AWP.ret ?_
     subst hR
     exact es
end N232
def D_zab : DF
 | [x0]=>some (.tup [ownL 188 3 yj ((zab (rdS x0)).1),.bool ((zab (rdS x0)).2)],false,[wS x0,(rdS x0).length<1099511627776,(rdS x0).length≤1048576])
 | _=>none
theorem yxy:OkD Tryz.prog 232 D_zab:=by unfold D_zab;exact dk N232.den
end Go.Ab
