/- A part of a proof: walks of functions and lemmas of our own. No conditions. -/
import Derived.Test.YtopoomikfjodkaaGreatDoorRBc
import Derived.Test.YtopoomikfjodkaaGreatDoorRAq
import Derived.Test.YtopoomikfjodkaaGreatDoorRAl
import Derived.Test.YtopoomikfjodkaaGreatDoorRAp
set_option linter.unusedSectionVars false
set_option linter.unusedVariables false
set_option linter.unusedSimpArgs false
set_option maxHeartbeats 1000000
namespace Go.Ab
open Go Go.Proofs
theorem ywh (a:Int):zgc a=(ysd.getD (IntKind.wrap .u8 (a-65)).toNat default).map (fun c=>if c=46 then(5:Int)else 15):=by
 have h:=ynd (ymo a) (fun j=>[if((ysd.getD (IntKind.wrap .u8 (a-65)).toNat default).getD j 0)=46 then(5:Int)else 15]) (ysd.getD (IntKind.wrap .u8 (a-65)).toNat default).length 0 [] (fun j s _ _=>by
  show(bif ((((ysd.getD (IntKind.wrap .u8 (a-65)).toNat default).getD j 0).toNat:Int) == 46)then(.ok (s++[5]):Except (List Int) (List Int))else .ok (s++[15]))=_
  generalize (ysd.getD (IntKind.wrap .u8 (a-65)).toNat default).getD j 0=c
  by_cases hc:c=46
  ·subst hc;rfl
  ·have:((c.toNat:Int) == 46)=false:=by
    rw[beq_eq_false_iff_ne]
    intro h
    exact hc (UInt8.toNat_inj.1 (by show c.toNat=46;omega))
   rw[this,if_neg hc];rfl)
 have e:zgc a=(match ye (ymo a) (ysd.getD (IntKind.wrap .u8 (a-65)).toNat default).length 0 ([]:List Int)with|.error e=>e|.ok s1=>s1):=rfl
 rw[e,h]
 simp only[List.nil_append]
 exact yrg _ 0 (fun c=>if c=46 then(5:Int)else 15)
theorem y1t (a:Int):(zgc a).length≤4:=by
 rw[ywh,List.length_map]
 exact ygm _
end Go.Ab

namespace Go.Ab
open Go Go.Proofs
def zmg (a0:Character):Bool:=
 ((a0.Kind == 1) || (((a0.Kind == 6) || (a0.Kind == 7)) && ((a0.Group.length:Int) == 0)))
namespace N275
theorem DD:DOk Tryz.prog (Go.Ab.DD []):=yc _
theorem den (a0:Character)  : Den Tryz.prog 275 [.ep (yg a0)] (.bool (zmg a0)):=by
 generalize hR:zmg a0=r
 unfold zmg at hR
 refine di Tryz.func275 Tryz.ntmps275 Tryz.results275 ?_
 intro c hL hc hk
 obtain⟨hL0,_⟩:=hL
 have hw0:bwCharacter a0:=yn a0 hL0
 clear hL0
 simp only[pars,Nat.zero_add]
 iterate 2 refine rS ?_
 refine AWP.ret ?_
 subst hR
 exact es
end N275
def D_zmg : DF
 | [x0]=>some (.bool (zmg (rdP yd x0)),false,[wP yg yd x0])
 | _=>none
theorem yvw:OkD Tryz.prog 275 D_zmg:=by unfold D_zmg;exact dk N275.den
end Go.Ab

namespace Go.Ab
open Go Go.Proofs
def y9t (a0:(List Int)) (i1:Nat) (s1:Int):Except (Int) (Int):=
 .ok (IntKind.wrap .i64 (s1+(a0.getD i1 default)))
def zef (a0:(List Int)):Int:=
 (match ye (y9t a0) (a0.length-0) 0 0 with|.error e=>e|.ok s1=>s1)
namespace N328
theorem DD:DOk Tryz.prog (Go.Ab.DD []):=yc _
theorem den (a0:(List Int))  : Den Tryz.prog 328 [encL 1 yr a0] (.int .i64 (zef a0)):=by
 generalize hR:zef a0=r
 unfold zef at hR
 refine di Tryz.func328 Tryz.ntmps328 Tryz.results328 ?_
 intro c hL hc hk
 obtain⟨hL0,_⟩:=hL
 have hw0:a0.length<9223372036854775808:=Nat.lt_succ_of_le (yf hL0).1
 clear hL0
 simp only[pars,Nat.zero_add]
 iterate 3 refine rS ?_
 refine AWP.block ?_
 generalize hz1:ye (y9t a0) (a0.length-0) 0 0=z1 at hR
 refine AWP.range (y9t a0) (fun i1 s1=>⟨[(0,encL 1 yr a0),(3,.int .i64 s1),(4,.int .i64 (i1:Int))],[]⟩) (fun i1 s1=>True) (a0.length) 0 0 [] hz1 ot wt sm ?_
 clear hz1
 intro i1 s1 hi1 hW1 hz1
 refine rS ?_
 refine AWP.cond rfl (fun hb => ?_) (fun hb => ?_)
 ·have hlt1:i1<a0.length:=ot
  rw[yj hlt1]at hz1;simp only[y9t]at hz1
  iterate 2 refine rS ?_
  exact⟨_,[],hlt1,wt,hz1,sm⟩
 ·obtain rfl:i1=a0.length:=ot
  rw[yi (Nat.le_refl _)]at hz1;subst hz1;dsimp only at hR
  refine AWP.exit ?_;refine yb ?_
  refine rS ?_
  refine AWP.ret ?_
  subst hR
  exact es
end N328
def D_zef : DF
 | [x0]=>some (.int .i64 (zef (rdL ywb x0)),false,[wL 1 yr ywb x0])
 | _=>none
theorem y06:OkD Tryz.prog 328 D_zef:=by unfold D_zef;exact dk N328.den
end Go.Ab

namespace Go.Ab
open Go Go.Proofs
def zyc (a0:Int):Int:=
 (bif (a0 == 2)then 10 else(bif (a0 == 4)then 15 else(bif (a0 == 5)then 20 else(bif (a0 == 7)then 3 else 5))))
namespace N368
theorem DD:DOk Tryz.prog (Go.Ab.DD []):=yc _
theorem den (a0:Int)  : Den Tryz.prog 368 [.int .i64 a0] (.int .i64 (zyc a0)):=by
 generalize hR:zyc a0=r
 unfold zyc at hR
 refine di Tryz.func368 Tryz.ntmps368 Tryz.results368 ?_
 intro c hL hc hk
 clear hL
 simp only[pars,Nat.zero_add]
 iterate 3 refine rS ?_
 refine AWP.cond rfl (fun hb => ?_) (fun hb => ?_)
 ·replace hR:=ct hR
  refine rS ?_
  refine AWP.ret ?_
  subst hR
  exact es
 ·replace hR:=cf hR
  refine rS ?_
  refine AWP.cond rfl (fun hb => ?_) (fun hb => ?_)
  ·replace hR:=ct hR
   refine rS ?_
   refine AWP.ret ?_
   subst hR
   exact es
  ·replace hR:=cf hR
   refine rS ?_
   refine AWP.cond rfl (fun hb => ?_) (fun hb => ?_)
   ·replace hR:=ct hR
    refine rS ?_
    refine AWP.ret ?_
    subst hR
    exact es
   ·replace hR:=cf hR
    refine rS ?_
    refine AWP.cond rfl (fun hb => ?_) (fun hb => ?_)
    ·replace hR:=ct hR
     refine rS ?_
     refine AWP.ret ?_
     subst hR
     exact es
    ·replace hR:=cf hR
     refine rS ?_
     refine AWP.ret ?_
     subst hR
     exact es
end N368
def D_zyc : DF
 | [x0]=>some (.int .i64 (zyc (rdI x0)),false,[wI .i64 x0])
 | _=>none
theorem yfx:OkD Tryz.prog 368 D_zyc:=by unfold D_zyc;exact dk N368.den
end Go.Ab

namespace Go.Ab
open Go Go.Proofs
def zif (a0:Int):Int:=
 (bif (a0 == 2)then 10 else(bif (a0 == 5)then 20 else(bif (a0 == 7)then 2 else 5)))
namespace N369
theorem DD:DOk Tryz.prog (Go.Ab.DD []):=yc _
theorem den (a0:Int)  : Den Tryz.prog 369 [.int .i64 a0] (.int .i64 (zif a0)):=by
 generalize hR:zif a0=r
 unfold zif at hR
 refine di Tryz.func369 Tryz.ntmps369 Tryz.results369 ?_
 intro c hL hc hk
 clear hL
 simp only[pars,Nat.zero_add]
 iterate 3 refine rS ?_
 refine AWP.cond rfl (fun hb => ?_) (fun hb => ?_)
 ·replace hR:=ct hR
  refine rS ?_
  refine AWP.ret ?_
  subst hR
  exact es
 ·replace hR:=cf hR
  refine rS ?_
  refine AWP.cond rfl (fun hb => ?_) (fun hb => ?_)
  ·replace hR:=ct hR
   refine rS ?_
   refine AWP.ret ?_
   subst hR
   exact es
  ·replace hR:=cf hR
   refine rS ?_
   refine AWP.cond rfl (fun hb => ?_) (fun hb => ?_)
   ·replace hR:=ct hR
    refine rS ?_
    refine AWP.ret ?_
    subst hR
    exact es
   ·replace hR:=cf hR
    refine rS ?_
    refine AWP.ret ?_
    subst hR
    exact es
end N369
def D_zif : DF
 | [x0]=>some (.int .i64 (zif (rdI x0)),false,[wI .i64 x0])
 | _=>none
theorem yp8:OkD Tryz.prog 369 D_zif:=by unfold D_zif;exact dk N369.den
end Go.Ab

namespace Go.Ab
open Go Go.Proofs
def zwg (a0:Character):Int:=
 (bif (a0.Kind == 6)then 20 else(bif (a0.Kind == 7)then 10 else(bif (a0.Kind == 8)then 30 else(bif decide (1<(a0.Group.length:Int))then IntKind.wrap .i64 ((IntKind.wrap .i64 ((zyc a0.Kind)+5))+20)else IntKind.wrap .i64 ((zyc a0.Kind)+5)))))
namespace N330
theorem DD:DOk Tryz.prog (Go.Ab.DD [(368,dP D_zyc)]):=ya yfx.e <| yc _
theorem dn:type_of% (@D_zyc.eq_1):=by and_intros<;>intros<;>rfl
theorem den (a0:Character)  : Den Tryz.prog 330 [.ep (yg a0)] (.int .i64 (zwg a0)):=by
 generalize hR:zwg a0=r
 unfold zwg at hR
 refine di Tryz.func330 Tryz.ntmps330 Tryz.results330 ?_
 intro c hL hc hk
 obtain⟨hL0,_⟩:=hL
 have hw0:bwCharacter a0:=yn a0 hL0
 clear hL0
 simp only[pars,Nat.zero_add]
 iterate 3 refine rS ?_
 refine AWP.cond rfl (fun hb => ?_) (fun hb => ?_)
 ·replace hR:=ct hR
  refine rS ?_
  refine AWP.ret ?_
  subst hR
  exact es
 ·replace hR:=cf hR
  refine rS ?_
  refine AWP.cond rfl (fun hb => ?_) (fun hb => ?_)
  ·replace hR:=ct hR
   refine rS ?_
   refine AWP.ret ?_
   subst hR
   exact es
  ·replace hR:=cf hR
   refine rS ?_
   refine AWP.cond rfl (fun hb => ?_) (fun hb => ?_)
   ·replace hR:=ct hR
    refine rS ?_
    refine AWP.ret ?_
    subst hR
    exact es
   ·replace hR:=cf hR
    iterate 2 refine rS ?_
    refine AWP.cond rfl (fun hb => ?_) (fun hb => ?_)
    ·replace hR:=ct hR
     iterate 2 refine rS ?_
     refine AWP.ret ?_
     subst hR
     exact es
    ·replace hR:=cf hR
     refine rS ?_
     refine AWP.ret ?_
     subst hR
     exact es
end N330
def D_zwg : DF
 | [x0]=>some (.int .i64 (zwg (rdP yd x0)),false,[wP yg yd x0])
 | _=>none
theorem y05:OkD Tryz.prog 330 D_zwg:=by unfold D_zwg;exact dk N330.den
end Go.Ab

namespace Go.Ab
open Go Go.Proofs
def yct (a0:(List Sector)) (i1:Nat) (s1:List UInt8) (i2:Nat) (s2:List UInt8):Except (Sum ((List UInt8)) (List UInt8)) (List UInt8):=
 (bif (((a0.getD i2 default).Color) == ([[87],[82],[71],[89]].getD i1 default))then .error (.inr (s2++([[87],[82],[71],[89]].getD i1 default)))else .ok s2)
def yao (a0:(List Sector)) (i1:Nat) (s1:List UInt8):Except ((List UInt8)) (List UInt8):=
 (match ye (yct a0 i1 s1) (a0.length-0) 0 s1 with|.error (.inl e)=>.error e|.error (.inr s2)=>.ok s2|.ok s2=>.ok s2)
def zwd (a0:(List Sector)):(List UInt8):=
 (match ye (yao a0) (4-0) 0 []with|.error e=>e|.ok s1=>s1)
namespace N201
theorem DD:DOk Tryz.prog (Go.Ab.DD []):=yc _
theorem o0 {p:Prop} (h:p:=by(first|(have h4:=hq4 i1;have h1:=hW1;have h2:=hW2;and_intros<;>omega));first|done|fail):p:=h
theorem lx {p:Prop} (h:p:=by(exact lxx);first|done|fail):p:=h
theorem den (a0:(List Sector)) (hb0:a0.length<1099511627776) (hb1:∀ v∈a0,bdSector v):Den Tryz.prog 201 [encL 3 yk a0] (.str (zwd a0)):=by
 generalize hR:zwd a0=r
 unfold zwd at hR
 refine di Tryz.func201 Tryz.ntmps201 Tryz.results201 ?_
 intro c hL hc hk
 obtain⟨hL0,_⟩:=hL
 have hw0:a0.length<9223372036854775808:=Nat.lt_succ_of_le (yf hL0).1
 have hw1:∀ v∈a0,bwSector v:=fun v hv=>yt v ((yf hL0).2 v hv)
 clear hL0
 simp only[pars,Nat.zero_add]
 have hq4:∀ i:Nat,(([[87],[82],[71],[89]]:List (List UInt8)).getD i default).length≤1:=fun i=>by rcases i with _|_|_|_|i<;>first|exact Nat.le_refl _|exact Nat.zero_le _
 iterate 4 refine rS ?_
 refine AWP.block ?_
 generalize hz1:ye (yao a0) (4-0) 0 []=z1 at hR
 refine AWP.range (yao a0) (fun i1 s1=>⟨[(0,encL 3 yk a0),(3,.str s1),(4,.ref 0 1 0 4),(5,.int .i64 (i1:Int))],[.arr 9 1 [[87],[82],[71],[89]].length (fun j=>eS ([[87],[82],[71],[89]].getD j default))]⟩) (fun i1 s1=>s1.length≤i1) (4) 0 [] [0] hz1 ot (by(simp)) sm ?_
 clear hz1
 intro i1 s1 hi1 hW1 hz1
 refine rS ?_
 refine AWP.cond rfl (fun hb => ?_) (fun hb => ?_)
 ·have hlt1:i1<4:=ot
  rw[yj hlt1]at hz1;simp only[yao]at hz1
  refine rS ?_
  refine AWP.block ?_
  generalize hz2:ye (yct a0 i1 s1) (a0.length-0) 0 s1=z2 at hz1
  refine AWP.range (yct a0 i1 s1) (fun i2 s2=>⟨[(0,encL 3 yk a0),(3,.str s2),(4,.ref 0 1 0 4),(5,.int .i64 (i1:Int)),(6,.int .i64 (i2:Int))],[.arr 9 1 [[87],[82],[71],[89]].length (fun j=>eS ([[87],[82],[71],[89]].getD j default))]⟩) (fun i2 s2=>s2.length≤i1) (a0.length) 0 s1 [0] hz2 ot (by(exact hW1)) sm ?_
  clear hz2
  intro i2 s2 hi2 hW2 hz2
  refine rS ?_
  refine AWP.cond rfl (fun hb => ?_) (fun hb => ?_)
  ·have hlt2:i2<a0.length:=ot
   rw[yj hlt2]at hz2;simp only[yct]at hz2
   refine rD 9 ?_
   refine AWP.cond rfl (fun hb => ?_) (fun hb => ?_)
   ·simp only[hb,cond_true]at hz2
    refine rS ?_
    refine AWP.exit ?_
    refine yhg rfl ?_
    refine yb ?_
    subst hz2;dsimp only at hz1
    refine rS ?_
    exact⟨_,[0],hlt1,by(have h4:=hq4 i1;simp only[ln]at *;omega),hz1,sm⟩
   ·simp only[hb,cond_false]at hz2
    refine rS ?_
    exact⟨_,[0],hlt2,by(first|exact hW2|assumption),hz2,sm⟩
  ·obtain rfl:i2=a0.length:=ot
   rw[yi (Nat.le_refl _)]at hz2;subst hz2;dsimp only at hz1
   refine AWP.exit ?_;refine yb ?_
   refine rS ?_
   exact⟨_,[0],hlt1,by(have h4:=hq4 i1;simp only[ln]at *;omega),hz1,sm⟩
 ·obtain rfl:i1=4:=ot
  rw[yi (Nat.le_refl _)]at hz1;subst hz1;dsimp only at hR
  refine AWP.exit ?_;refine yb ?_
  refine rS ?_
  refine AWP.ret ?_
  subst hR
  exact es
end N201
def D_zwd : DF
 | [x0]=>some (.str (zwd (rdL yq x0)),false,[wL 3 yk yq x0,(rdL yq x0).length<1099511627776,∀ v∈(rdL yq x0),bdSector v])
 | _=>none
theorem y74:OkD Tryz.prog 201 D_zwd:=by unfold D_zwd;exact dk N201.den
end Go.Ab

namespace Go.Ab
open Go Go.Proofs
def zgd (a0:Point):Bool:=
 ((zg a0.X 0 200000) && (zg a0.Y 0 200000))
namespace N196
theorem DD:DOk Tryz.prog (Go.Ab.DD [(170,dP D_zg)]):=ya yrd.e <| yc _
theorem dn:type_of% (@D_zg.eq_1):=by and_intros<;>intros<;>rfl
theorem ol:type_of% (@zg.eq_1):=@zg.eq_1
theorem den (a0:Point)  : Den Tryz.prog 196 [.agg (ytd a0)] (.bool (zgd a0)):=by
 generalize hR:zgd a0=r
 unfold zgd at hR
 refine di Tryz.func196 Tryz.ntmps196 Tryz.results196 ?_
 intro c hL hc hk
 clear hL
 simp only[pars,Nat.zero_add]
 iterate 2 refine rS ?_
 refine AWP.ret ?_
 subst hR
 exact es
end N196
def D_zgd : DF
 | [x0]=>some (.bool (zgd (rdG y2f x0)),false,[wG ytd y2f x0])
 | _=>none
theorem yzx:OkD Tryz.prog 196 D_zgd:=by unfold D_zgd;exact dk N196.den
end Go.Ab

namespace Go.Ab
open Go Go.Proofs
def zwe (a0:Character):Bool:=
 (((((a0.Kind == 0) && ((a0.Group.length:Int) == 0)) && (a0.Letter == [])) && (a0.Colors == [])) && (a0.Period == 0))
namespace N198
theorem DD:DOk Tryz.prog (Go.Ab.DD []):=yc _
theorem den (a0:Character)  : Den Tryz.prog 198 [.ep (yg a0)] (.bool (zwe a0)):=by
 generalize hR:zwe a0=r
 unfold zwe at hR
 refine di Tryz.func198 Tryz.ntmps198 Tryz.results198 ?_
 intro c hL hc hk
 obtain⟨hL0,_⟩:=hL
 have hw0:bwCharacter a0:=yn a0 hL0
 clear hL0
 simp only[pars,Nat.zero_add]
 iterate 2 refine rS ?_
 refine AWP.ret ?_
 subst hR
 exact es
end N198
def D_zwe : DF
 | [x0]=>some (.bool (zwe (rdP yd x0)),false,[wP yg yd x0])
 | _=>none
theorem yk6:OkD Tryz.prog 198 D_zwe:=by unfold D_zwe;exact dk N198.den
end Go.Ab

namespace Go.Ab
open Go Go.Proofs
def zei (a0:Aid):Bool:=
 (a0.Light.Kind != 0)
end Go.Ab

namespace Go.Ab
open Go Go.Proofs
def zwb  : (List (List UInt8)):=
 ([[110,111,110,101],[108,101,102,116],[114,105,103,104,116],[110,111,114,116,104],[101,97,115,116],[115,111,117,116,104],[119,101,115,116],[100,97,110,103,101,114],[115,97,102,101],[115,112,101,99,105,97,108]]:List (List UInt8))
namespace N333
theorem DD:DOk Tryz.prog (Go.Ab.DD []):=yc _
theorem lx {p:Prop} (h:p:=by(exact lxx);first|done|fail):p:=h
theorem den   : Den Tryz.prog 333 [] (ownL 9 1 eS (zwb)):=by
 generalize hR:zwb=r
 unfold zwb at hR
 refine di Tryz.func333 Tryz.ntmps333 Tryz.results333 ?_
 intro c hL hc hk
 clear hL
 simp only[pars,Nat.zero_add]
 iterate 2 refine rS ?_
 refine AWP.ret ?_
 subst hR
 exact es
end N333
def D_zwb : DF
 | []=>some (ownL 9 1 eS zwb,false,[])
 | _=>none
def Dz_zwb : DF
 | []=>some (ownL 9 1 eS zwb,true,[])
 | _=>none
theorem y6w:OkD Tryz.prog 333 D_zwb:=by unfold D_zwb;exact dk N333.den
theorem yb2:OkD Tryz.prog 333 Dz_zwb:=by unfold Dz_zwb;exact dk N333.den
end Go.Ab

namespace Go.Ab
open Go Go.Proofs
def zo  : (List (List UInt8)):=
 ([[],[70],[79,99],[73,115,111],[70,108],[76,70,108],[81],[86,81],[77,111]]:List (List UInt8))
namespace N279
theorem DD:DOk Tryz.prog (Go.Ab.DD []):=yc _
theorem lx {p:Prop} (h:p:=by(exact lxx);first|done|fail):p:=h
theorem den   : Den Tryz.prog 279 [] (ownL 9 1 eS (zo)):=by
 generalize hR:zo=r
 unfold zo at hR
 refine di Tryz.func279 Tryz.ntmps279 Tryz.results279 ?_
 intro c hL hc hk
 clear hL
 simp only[pars,Nat.zero_add]
 iterate 2 refine rS ?_
 refine AWP.ret ?_
 subst hR
 exact es
end N279
def D_zo : DF
 | []=>some (ownL 9 1 eS zo,false,[])
 | _=>none
def Dz_zo : DF
 | []=>some (ownL 9 1 eS zo,true,[])
 | _=>none
theorem y71:OkD Tryz.prog 279 D_zo:=by unfold D_zo;exact dk N279.den
theorem y94:OkD Tryz.prog 279 Dz_zo:=by unfold Dz_zo;exact dk N279.den
end Go.Ab

namespace Go.Ab
open Go Go.Proofs
def y3q (a0:Int) (s1:Int×List Int):Except (Sum ((List UInt8)) (Int×List Int)) (Int×List Int):=
 (bif (s1.1 != 0)then(bif decide ((s1.1.tmod 10)<0)then .ok (IntKind.wrap .i64 (s1.1.tdiv 10),s1.2++([IntKind.wrap .u8 (IntKind.wrap .i64 (48+(IntKind.wrap .i64 (0-(s1.1.tmod 10)))))]:List Int))else .ok (IntKind.wrap .i64 (s1.1.tdiv 10),s1.2++([IntKind.wrap .u8 (IntKind.wrap .i64 (48+(s1.1.tmod 10)))]:List Int)))else .error (.inr (s1.1,s1.2)))
def ykv (a0:Int) (s1:Int×List Int) (s2:Int×List Int):Except (Sum ((List UInt8)) (Int×List Int)) (Int×List Int):=
 (bif decide (0≤s2.1)then .ok (IntKind.wrap .i64 (s2.1-1),s2.2++([((s1.2++([45]:List Int)).getD ((s2.1).toNat) default)]:List Int))else .error (.inr (s2.1,s2.2)))
def yzu (a0:Int) (s1:Int×List Int) (s3:Int×List Int):Except (Sum ((List UInt8)) (Int×List Int)) (Int×List Int):=
 (bif decide (0≤s3.1)then .ok (IntKind.wrap .i64 (s3.1-1),s3.2++([(s1.2.getD ((s3.1).toNat) default)]:List Int))else .error (.inr (s3.1,s3.2)))
def zk (a0:Int):(List UInt8):=
 (bif (a0 == 0)then[48]else(match y3 (y3q a0) (((a0).natAbs)+1) (a0,([]:List Int))with|.error (.inl e)=>e|.error (.inr s1)=>(bif decide (a0<0)then(match y3 (ykv a0 s1) ((((IntKind.wrap .i64 ((s1.2.length+1:Int)-1))+1).toNat)+1) (IntKind.wrap .i64 ((s1.2.length+1:Int)-1),([]:List Int))with|.error (.inl e)=>e|.error (.inr s2)=>(s2.2.map fun z=>UInt8.ofNat z.toNat)|.ok _=>default)else(match y3 (yzu a0 s1) ((((IntKind.wrap .i64 ((s1.2.length:Int)-1))+1).toNat)+1) (IntKind.wrap .i64 ((s1.2.length:Int)-1),([]:List Int))with|.error (.inl e)=>e|.error (.inr s3)=>(s3.2.map fun z=>UInt8.ofNat z.toNat)|.ok _=>default))|.ok _=>default))
namespace N166
theorem DD:DOk Tryz.prog (Go.Ab.DD []):=yc _
theorem den (a0:Int) (hp0 : -1000000000000≤a0) (hp1:a0≤1000000000000):Den Tryz.prog 166 [.int .i64 a0] (.str (zk a0)):=by
 generalize hR:zk a0=r
 unfold zk at hR
 refine di Tryz.func166 Tryz.ntmps166 Tryz.results166 ?_
 intro c hL hc hk
 clear hL
 simp only[pars,Nat.zero_add]
 iterate 2 refine rS ?_
 refine AWP.cond rfl (fun hb => ?_) (fun hb => ?_)
 ·replace hR:=ct hR
  refine rS ?_
  refine AWP.ret ?_
  subst hR
  exact es
 ·replace hR:=cf hR
  iterate 2 refine rS ?_
  refine AWP.block ?_
  generalize hz1:y3 (y3q a0) (((a0).natAbs)+1) (a0,([]:List Int))=z1 at hR
  refine AWP.whileW (y3q a0) (fun s1=>⟨[(0,.int .i64 a0),(3,.ref 0 1 0 s1.2.length),(4,.int .i64 s1.1)],[.arr 5 1 s1.2.length (fun j=>eIu8 (s1.2.getD j default))]⟩) (fun s1 => -1000000000000≤s1.1∧s1.1≤1000000000000∧s1.2.length+(s1.1).natAbs≤1000000000000) (fun s1=>(s1.1).natAbs) (((a0).natAbs)+1) (a0,([]:List Int)) [0] hz1 m0 wt sm ?_
  clear hz1
  intro s1 k1 hW1 hm1 hz1
  simp only[y3q]at hz1
  refine rS ?_
  refine AWP.cond rfl (fun hb => ?_) (fun hb => ?_)
  ·simp only[hb,cond_true]at hz1
   iterate 2 refine rS ?_
   refine AWP.cond rfl (fun hb => ?_) (fun hb => ?_)
   ·simp only[hb,cond_true]at hz1
    iterate 3 refine rS ?_
    exact⟨_,[2],by(have h10:=yim s1.1;simp only[ob,ln,ol]at *;omega),by(have h10:=yim s1.1;refine⟨?_,?_,?_⟩<;>simp only[ob,ln,ol]at * <;> omega),hz1,sm⟩
   ·simp only[hb,cond_false]at hz1
    iterate 2 refine rS ?_
    exact⟨_,[2],by(have h10:=yim s1.1;simp only[ob,ln,ol]at *;omega),by(have h10:=yim s1.1;refine⟨?_,?_,?_⟩<;>simp only[ob,ln,ol]at * <;> omega),hz1,sm⟩
  ·simp only[hb,cond_false]at hz1
   refine AWP.exit ?_
   refine yb ?_
   subst hz1;dsimp only at hR
   refine rS ?_
   refine AWP.cond rfl (fun hb => ?_) (fun hb => ?_)
   ·replace hR:=ct hR
    iterate 3 refine rS ?_
    refine AWP.block ?_
    generalize hz2:y3 (ykv a0 (s1.1,s1.2)) ((((IntKind.wrap .i64 ((s1.2.length+1:Int)-1))+1).toNat)+1) (IntKind.wrap .i64 ((s1.2.length+1:Int)-1),([]:List Int))=z2 at hR
    refine AWP.whileW (ykv a0 (s1.1,s1.2)) (fun s2=>⟨[(3,.ref 0 1 0 (s1.2.length+1)),(6,.ref 1 1 0 s2.2.length),(7,.int .i64 s2.1)],[.arr 5 1 (s1.2++([45]:List Int)).length (fun j=>eIu8 ((s1.2++([45]:List Int)).getD j default)),.arr 5 1 s2.2.length (fun j=>eIu8 (s2.2.getD j default))]⟩) (fun s2 => -1≤s2.1∧s2.1≤s1.2.length∧s2.1≤1000000000000∧s2.2.length+(s2.1+1).toNat≤1000000000001) (fun s2=>(s2.1+1).toNat) ((((IntKind.wrap .i64 ((s1.2.length+1:Int)-1))+1).toNat)+1) (IntKind.wrap .i64 ((s1.2.length+1:Int)-1),([]:List Int)) [2,3] hz2 m0 wt sm ?_
    clear hz2
    intro s2 k2 hW2 hm2 hz2
    simp only[ykv]at hz2
    refine rS ?_
    refine AWP.cond rfl (fun hb => ?_) (fun hb => ?_)
    ·simp only[hb,cond_true]at hz2
     iterate 2 refine rS ?_
     exact⟨_,[0,3],ms,wt,hz2,sm⟩
    ·simp only[hb,cond_false]at hz2
     refine AWP.exit ?_
     refine yb ?_
     subst hz2;dsimp only at hR
     refine rS ?_
     refine AWP.ret ?_
     subst hR
     exact es
   ·replace hR:=cf hR
    iterate 2 refine rS ?_
    refine AWP.block ?_
    generalize hz3:y3 (yzu a0 (s1.1,s1.2)) ((((IntKind.wrap .i64 ((s1.2.length:Int)-1))+1).toNat)+1) (IntKind.wrap .i64 ((s1.2.length:Int)-1),([]:List Int))=z3 at hR
    refine AWP.whileW (yzu a0 (s1.1,s1.2)) (fun s3=>⟨[(3,.ref 0 1 0 s1.2.length),(6,.ref 1 1 0 s3.2.length),(7,.int .i64 s3.1)],[.arr 5 1 s1.2.length (fun j=>eIu8 (s1.2.getD j default)),.arr 5 1 s3.2.length (fun j=>eIu8 (s3.2.getD j default))]⟩) (fun s3 => -1≤s3.1∧s3.1<s1.2.length∧s3.1≤1000000000000∧s3.2.length+(s3.1+1).toNat≤1000000000001) (fun s3=>(s3.1+1).toNat) ((((IntKind.wrap .i64 ((s1.2.length:Int)-1))+1).toNat)+1) (IntKind.wrap .i64 ((s1.2.length:Int)-1),([]:List Int)) [0,1] hz3 m0 wt sm ?_
    clear hz3
    intro s3 k3 hW3 hm3 hz3
    simp only[yzu]at hz3
    refine rS ?_
    refine AWP.cond rfl (fun hb => ?_) (fun hb => ?_)
    ·simp only[hb,cond_true]at hz3
     iterate 2 refine rS ?_
     exact⟨_,[0,3],ms,wt,hz3,sm⟩
    ·simp only[hb,cond_false]at hz3
     refine AWP.exit ?_
     refine yb ?_
     subst hz3;dsimp only at hR
     refine rS ?_
     refine AWP.ret ?_
     subst hR
     exact es
end N166
def D_zk : DF
 | [x0]=>some (.str (zk (rdI x0)),false,[wI .i64 x0,-1000000000000≤(rdI x0),(rdI x0)≤1000000000000])
 | _=>none
theorem y4o:OkD Tryz.prog 166 D_zk:=by unfold D_zk;exact dk N166.den
end Go.Ab

namespace Go.Ab
open Go Go.Proofs
def y8n (a0:(List UInt8)) (i1:Nat) (s1:Int):Except ((Int×Bool)) (Int):=
 (bif (decide (((a0.getD i1 0).toNat:Int)<48) || decide (57<((a0.getD i1 0).toNat:Int)))then .error (0,false)else .ok (IntKind.wrap .i64 ((IntKind.wrap .i64 (10 * s1))+(IntKind.wrap .i64 (IntKind.wrap .u8 (((a0.getD i1 0).toNat:Int)-48))))))
def zvc (a0:(List UInt8)):(Int×Bool):=
 (match ye (y8n a0) (a0.length-0) 0 0 with|.error e=>e|.ok s1=>(s1,true))
namespace N254
theorem DD:DOk Tryz.prog (Go.Ab.DD []):=yc _
theorem den (a0:(List UInt8))  : Den Tryz.prog 254 [.str a0] (.tup [.int .i64 ((zvc a0).1),.bool ((zvc a0).2)]):=by
 generalize hR:zvc a0=r
 unfold zvc at hR
 refine di Tryz.func254 Tryz.ntmps254 Tryz.results254 ?_
 intro c hL hc hk
 obtain⟨hL0,_⟩:=hL
 have hw0:a0.length<9223372036854775808:=Nat.lt_succ_of_le hL0
 clear hL0
 simp only[pars,Nat.zero_add]
 iterate 3 refine rS ?_
 refine AWP.block ?_
 generalize hz1:ye (y8n a0) (a0.length-0) 0 0=z1 at hR
 refine AWP.range (y8n a0) (fun i1 s1=>⟨[(0,.str a0),(4,.int .i64 s1),(5,.int .i64 (i1:Int))],[]⟩) (fun i1 s1=>True) (a0.length) 0 0 [] hz1 ot wt sm ?_
 clear hz1
 intro i1 s1 hi1 hW1 hz1
 refine rS ?_
 refine AWP.cond rfl (fun hb => ?_) (fun hb => ?_)
 ·have hlt1:i1<a0.length:=ot
  rw[yj hlt1]at hz1;simp only[y8n]at hz1
  refine rS ?_
  refine AWP.cond rfl (fun hb => ?_) (fun hb => ?_)
  ·simp only[hb,cond_true]at hz1
   refine rS ?_
   refine AWP.ret ?_
   subst hz1
   dsimp only at hR
   subst hR
   exact es
  ·simp only[hb,cond_false]at hz1
   iterate 2 refine rS ?_
   exact⟨_,[],hlt1,wt,hz1,sm⟩
 ·obtain rfl:i1=a0.length:=ot
  rw[yi (Nat.le_refl _)]at hz1;subst hz1;dsimp only at hR
  refine AWP.exit ?_;refine yb ?_
  refine rS ?_
  refine AWP.ret ?_
  subst hR
  exact es
end N254
def D_zvc : DF
 | [x0]=>some (.tup [.int .i64 ((zvc (rdS x0)).1),.bool ((zvc (rdS x0)).2)],false,[wS x0])
 | _=>none
theorem yw6:OkD Tryz.prog 254 D_zvc:=by unfold D_zvc;exact dk N254.den
end Go.Ab

namespace Go.Ab
open Go Go.Proofs
def zng (a0:Int):Bool:=
 (zg a0 2000 2273)
namespace N316
theorem DD:DOk Tryz.prog (Go.Ab.DD [(170,dP D_zg)]):=ya yrd.e <| yc _
theorem dn:type_of% (@D_zg.eq_1):=by and_intros<;>intros<;>rfl
theorem ol:type_of% (@zg.eq_1):=@zg.eq_1
theorem den (a0:Int)  : Den Tryz.prog 316 [.int .i64 a0] (.bool (zng a0)):=by
 generalize hR:zng a0=r
 unfold zng at hR
 refine di Tryz.func316 Tryz.ntmps316 Tryz.results316 ?_
 intro c hL hc hk
 clear hL
 simp only[pars,Nat.zero_add]
 iterate 2 refine rS ?_
 refine AWP.ret ?_
 subst hR
 exact es
end N316
def D_zng : DF
 | [x0]=>some (.bool (zng (rdI x0)),false,[wI .i64 x0])
 | _=>none
theorem yf8:OkD Tryz.prog 316 D_zng:=by unfold D_zng;exact dk N316.den
end Go.Ab

namespace Go.Ab
open Go Go.Proofs
def zrf (a0:Int):Bool:=
 ((((a0.tmod 4) == 0) && ((a0.tmod 100) != 0)) || ((a0.tmod 400) == 0))
namespace N359
theorem DD:DOk Tryz.prog (Go.Ab.DD []):=yc _
theorem den (a0:Int)  : Den Tryz.prog 359 [.int .i64 a0] (.bool (zrf a0)):=by
 generalize hR:zrf a0=r
 unfold zrf at hR
 refine di Tryz.func359 Tryz.ntmps359 Tryz.results359 ?_
 intro c hL hc hk
 clear hL
 simp only[pars,Nat.zero_add]
 iterate 2 refine rS ?_
 refine AWP.ret ?_
 subst hR
 exact es
end N359
def D_zrf : DF
 | [x0]=>some (.bool (zrf (rdI x0)),false,[wI .i64 x0])
 | _=>none
theorem y8w:OkD Tryz.prog 359 D_zrf:=by unfold D_zrf;exact dk N359.den
end Go.Ab

namespace Go.Ab
open Go Go.Proofs
def zod (a0:Int) (a1:Int):Int:=
 (bif (a1 == 2)then(bif (zrf a0)then 29 else 28)else(bif (a1 == 4)then 30 else(bif (a1 == 6)then 30 else(bif (a1 == 9)then 30 else(bif (a1 == 11)then 30 else 31)))))
namespace N317
theorem DD:DOk Tryz.prog (Go.Ab.DD [(359,dP D_zrf)]):=ya y8w.e <| yc _
theorem dn:type_of% (@D_zrf.eq_1):=by and_intros<;>intros<;>rfl
theorem den (a0:Int) (a1:Int)  : Den Tryz.prog 317 [.int .i64 a0,.int .i64 a1] (.int .i64 (zod a0 a1)):=by
 generalize hR:zod a0 a1=r
 unfold zod at hR
 refine di Tryz.func317 Tryz.ntmps317 Tryz.results317 ?_
 intro c hL hc hk
 clear hL
 simp only[pars,Nat.zero_add]
 iterate 3 refine rS ?_
 refine AWP.cond rfl (fun hb => ?_) (fun hb => ?_)
 ·replace hR:=ct hR
  refine rS ?_
  refine AWP.cond rfl (fun hb => ?_) (fun hb => ?_)
  ·replace hR:=ct hR
   refine rS ?_
   refine AWP.ret ?_
   subst hR
   exact es
  ·replace hR:=cf hR
   refine rS ?_
   refine AWP.ret ?_
   subst hR
   exact es
 ·replace hR:=cf hR
  refine rS ?_
  refine AWP.cond rfl (fun hb => ?_) (fun hb => ?_)
  ·replace hR:=ct hR
   refine AWP.skip ?_
   refine AWP.cond rfl (fun hb => ?_) (fun hb => ?_)
   ·refine rS ?_
    refine AWP.ret ?_
    subst hR
    exact es
   ·exfalso;simp_all
  ·replace hR:=cf hR
   refine rS ?_
   refine AWP.cond rfl (fun hb => ?_) (fun hb => ?_)
   ·replace hR:=ct hR
    refine AWP.skip ?_
    refine AWP.cond rfl (fun hb => ?_) (fun hb => ?_)
    ·refine rS ?_
     refine AWP.ret ?_
     subst hR
     exact es
    ·exfalso;simp_all
   ·replace hR:=cf hR
    refine rS ?_
    refine AWP.cond rfl (fun hb => ?_) (fun hb => ?_)
    ·replace hR:=ct hR
     refine AWP.skip ?_
     refine AWP.cond rfl (fun hb => ?_) (fun hb => ?_)
     ·refine rS ?_
      refine AWP.ret ?_
      subst hR
      exact es
     ·exfalso;simp_all
    ·replace hR:=cf hR
     refine rS ?_
     refine AWP.cond rfl (fun hb => ?_) (fun hb => ?_)
     ·replace hR:=ct hR
      refine rS ?_
      refine AWP.ret ?_
      subst hR
      exact es
     ·replace hR:=cf hR
      refine rS ?_
      refine AWP.ret ?_
      subst hR
      exact es
end N317
def D_zod : DF
 | [x0,x1]=>some (.int .i64 (zod (rdI x0) (rdI x1)),false,[wI .i64 x0,wI .i64 x1])
 | _=>none
theorem yyy:OkD Tryz.prog 317 D_zod:=by unfold D_zod;exact dk N317.den
end Go.Ab

namespace Go.Ab
open Go Go.Proofs
theorem y02 (y m:Int):28≤zod y m∧zod y m≤31:=by
 unfold zod
 cases zrf y<;>cases(m == 2)<;>cases(m == 4)<;>cases(m == 6)<;>cases(m == 9)<;>cases(m == 11)<;>simp
theorem yjq {y m:Int} (h1:1≤m) (h2:m≤12):zod y m=mdD (yhb y) m.toNat:=by
 show zod y m=mdD (zrf y) m.toNat
 unfold zod
 rcases yhf h1 h2 with rfl|rfl|rfl|rfl|rfl|rfl|rfl|rfl|rfl|rfl|rfl|rfl<;>cases zrf y<;>rfl
end Go.Ab

namespace Go.Ab
open Go Go.Proofs
def y0n (a0:Int) (a1:Int) (a2:Int) (i1:Nat) (s1:Int):Except (Int) (Int):=
 (bif (zrf (i1:Int))then .ok (IntKind.wrap .i64 ((IntKind.wrap .i64 (s1+365))+1))else .ok (IntKind.wrap .i64 (s1+365)))
def ybu (a0:Int) (a1:Int) (a2:Int) (s1:Int) (i2:Nat) (s2:Int):Except (Int) (Int):=
 .ok (IntKind.wrap .i64 (s2+(zod a0 (i2:Int))))
def zzc (a0:Int) (a1:Int) (a2:Int):Int:=
 (match ye (y0n a0 a1 a2) ((a0).toNat-2000) 2000 (IntKind.wrap .i64 (a2-1))with|.error e=>e|.ok s1=>(match ye (ybu a0 a1 a2 s1) ((a1).toNat-1) 1 s1 with|.error e=>e|.ok s2=>s2))
namespace N318
theorem DD:DOk Tryz.prog (Go.Ab.DD [(317,dP D_zod),(359,dP D_zrf)]):=ya yyy.e <| ya y8w.e <| yc _
theorem dn:type_of% (And.intro @D_zod.eq_1 <| @D_zrf.eq_1):=by and_intros<;>intros<;>rfl
set_option maxHeartbeats 400000 in
set_option maxRecDepth 20000 in
theorem den (a0:Int) (a1:Int) (a2:Int) (hp0:2000≤a0) (hp1:a0≤2273) (hp2:1≤a1) (hp3:a1≤12) (hp4:1≤a2) (hp5:a2≤31):Den Tryz.prog 318 [.int .i64 a0,.int .i64 a1,.int .i64 a2] (.int .i64 (zzc a0 a1 a2)):=by
 generalize hR:zzc a0 a1 a2=r
 unfold zzc at hR
 refine di Tryz.func318 Tryz.ntmps318 Tryz.results318 ?_
 intro c hL hc hk
 clear hL
 simp only[pars,Nat.zero_add]
 iterate 3 refine rS ?_
 refine AWP.block ?_
 generalize hz1:ye (y0n a0 a1 a2) ((a0).toNat-2000) 2000 (IntKind.wrap .i64 (a2-1))=z1 at hR
 refine AWP.range (y0n a0 a1 a2) (fun i1 s1=>⟨[(0,.int .i64 a0),(1,.int .i64 a1),(7,.int .i64 s1),(8,.int .i64 (i1:Int))],[]⟩) (fun i1 s1=>2000≤i1∧0≤s1∧s1≤30+366 * ((i1:Int)-2000)∧2000≤i1) ((a0).toNat) 2000 (IntKind.wrap .i64 (a2-1)) [] hz1 ot wt sm ?_
 clear hz1
 intro i1 s1 hi1 hW1 hz1
 refine rS ?_
 refine AWP.cond rfl (fun hb => ?_) (fun hb => ?_)
 ·have hlt1:i1<(a0).toNat:=ot
  rw[yj hlt1]at hz1;simp only[y0n]at hz1
  iterate 2 refine rS ?_
  refine AWP.cond rfl (fun hb => ?_) (fun hb => ?_)
  ·simp only[hb,cond_true]at hz1
   iterate 2 refine rS ?_
   exact⟨_,[],hlt1,wt,hz1,sm⟩
  ·simp only[hb,cond_false]at hz1
   refine rS ?_
   exact⟨_,[],hlt1,wt,hz1,sm⟩
 ·obtain rfl:i1=(a0).toNat:=ot
  rw[yi (Nat.le_refl _)]at hz1;subst hz1;dsimp only at hR
  refine AWP.exit ?_;refine yb ?_
  refine rS ?_
  refine AWP.block ?_
  generalize hz2:ye (ybu a0 a1 a2 s1) ((a1).toNat-1) 1 s1=z2 at hR
  refine AWP.range (ybu a0 a1 a2 s1) (fun i2 s2=>⟨[(0,.int .i64 a0),(1,.int .i64 a1),(7,.int .i64 s2),(9,.int .i64 (i2:Int))],[]⟩) (fun i2 s2=>1≤i2∧0≤s2∧s2≤30+366 * 273+31 * ((i2:Int)-1)∧1≤i2) ((a1).toNat) 1 s1 [] hz2 ot wt sm ?_
  clear hz2
  intro i2 s2 hi2 hW2 hz2
  refine rS ?_
  refine AWP.cond rfl (fun hb => ?_) (fun hb => ?_)
  ·have hlt2:i2<(a1).toNat:=ot
   rw[yj hlt2]at hz2;simp only[ybu]at hz2
   iterate 2 refine rS ?_
   exact⟨_,[],hlt2,by(have h9:=y02 a0 (i2:Int);simp only[ob,ln,ol]at *;omega),hz2,sm⟩
  ·obtain rfl:i2=(a1).toNat:=ot
   rw[yi (Nat.le_refl _)]at hz2;subst hz2;dsimp only at hR
   refine AWP.exit ?_;refine yb ?_
   refine rS ?_
   refine AWP.ret ?_
   subst hR
   exact es
end N318
def D_zzc : DF
 | [x0,x1,x2]=>some (.int .i64 (zzc (rdI x0) (rdI x1) (rdI x2)),false,[wI .i64 x0,wI .i64 x1,wI .i64 x2,2000≤(rdI x0),(rdI x0)≤2273,1≤(rdI x1),(rdI x1)≤12,1≤(rdI x2),(rdI x2)≤31])
 | _=>none
theorem y15:OkD Tryz.prog 318 D_zzc:=by unfold D_zzc;exact dk N318.den
end Go.Ab

namespace Go.Ab
open Go Go.Proofs
def zsf (a0:Int) (a1:Int) (a2:Int):(Int×Bool):=
 (bif (((!(zng a0)) || (!(zg a1 1 12))) || (!(zg a2 1 (zod a0 a1))))then(0,false)else((zzc a0 a1 a2),decide ((zzc a0 a1 a2)≤99999)))
namespace N255
theorem DD:DOk Tryz.prog (Go.Ab.DD [(170,dP D_zg),(316,dP D_zng),(317,dP D_zod),(318,dP D_zzc)]):=ya yrd.e <| ya yf8.e <| ya yyy.e <| ya y15.e <| yc _
theorem dn:type_of% (And.intro @D_zg.eq_1 <| And.intro @D_zng.eq_1 <| And.intro @D_zod.eq_1 <| @D_zzc.eq_1):=by and_intros<;>intros<;>rfl
theorem ol:type_of% (@zg.eq_1):=@zg.eq_1
theorem o0 {p:Prop} (h:p:=by(first|(have h9:=y02 a0 a1;have hb8:=hb;simp[zng,zg]at hb8;omega));first|done|fail):p:=h
theorem den (a0:Int) (a1:Int) (a2:Int)  : Den Tryz.prog 255 [.int .i64 a0,.int .i64 a1,.int .i64 a2] (.tup [.int .i64 ((zsf a0 a1 a2).1),.bool ((zsf a0 a1 a2).2)]):=by
 generalize hR:zsf a0 a1 a2=r
 unfold zsf at hR
 refine di Tryz.func255 Tryz.ntmps255 Tryz.results255 ?_
 intro c hL hc hk
 clear hL
 simp only[pars,Nat.zero_add]
 iterate 2 refine rS ?_
 refine AWP.cond rfl (fun hb => ?_) (fun hb => ?_)
 ·replace hR:=ct hR
  refine rS ?_
  refine AWP.ret ?_
  subst hR
  exact es
 ·replace hR:=cf hR
  iterate 2 refine rS ?_
  refine AWP.ret ?_
  subst hR
  exact es
end N255
def D_zsf : DF
 | [x0,x1,x2]=>some (.tup [.int .i64 ((zsf (rdI x0) (rdI x1) (rdI x2)).1),.bool ((zsf (rdI x0) (rdI x1) (rdI x2)).2)],false,[wI .i64 x0,wI .i64 x1,wI .i64 x2])
 | _=>none
theorem y95:OkD Tryz.prog 255 D_zsf:=by unfold D_zsf;exact dk N255.den
end Go.Ab

namespace Go.Ab
open Go Go.Proofs
def znb (a0:(List UInt8)):(Int×Bool):=
 (bif ((((a0.length:Int) != 10) || (((a0.getD 4 0).toNat:Int) != 45)) || (((a0.getD 7 0).toNat:Int) != 45))then(0,false)else(bif (((!((zvc (a0.take 4)).2)) || (!((zvc ((a0.take 7).drop 5)).2))) || (!((zvc ((a0.take a0.length).drop 8)).2)))then(0,false)else(bif (!((zsf ((zvc (a0.take 4)).1) ((zvc ((a0.take 7).drop 5)).1) ((zvc ((a0.take a0.length).drop 8)).1)).2))then(0,false)else((zsf ((zvc (a0.take 4)).1) ((zvc ((a0.take 7).drop 5)).1) ((zvc ((a0.take a0.length).drop 8)).1)).1,true))))
namespace N169
theorem DD:DOk Tryz.prog (Go.Ab.DD [(254,dP D_zvc),(255,dP D_zsf)]):=ya yw6.e <| ya y95.e <| yc _
theorem dn:type_of% (And.intro @D_zvc.eq_1 <| @D_zsf.eq_1):=by and_intros<;>intros<;>rfl
theorem den (a0:(List UInt8))  : Den Tryz.prog 169 [.str a0] (.tup [.int .i64 ((znb a0).1),.bool ((znb a0).2)]):=by
 generalize hR:znb a0=r
 unfold znb at hR
 refine di Tryz.func169 Tryz.ntmps169 Tryz.results169 ?_
 intro c hL hc hk
 obtain⟨hL0,_⟩:=hL
 have hw0:a0.length<9223372036854775808:=Nat.lt_succ_of_le hL0
 clear hL0
 simp only[pars,Nat.zero_add]
 iterate 2 refine rS ?_
 refine AWP.cond rfl (fun hb => ?_) (fun hb => ?_)
 ·replace hR:=ct hR
  refine rS ?_
  refine AWP.ret ?_
  subst hR
  exact es
 ·replace hR:=cf hR
  iterate 4 refine rS ?_
  refine AWP.cond rfl (fun hb => ?_) (fun hb => ?_)
  ·replace hR:=ct hR
   refine rS ?_
   refine AWP.ret ?_
   subst hR
   exact es
  ·replace hR:=cf hR
   iterate 2 refine rS ?_
   refine AWP.cond rfl (fun hb => ?_) (fun hb => ?_)
   ·replace hR:=ct hR
    refine rS ?_
    refine AWP.ret ?_
    subst hR
    exact es
   ·replace hR:=cf hR
    refine rS ?_
    refine AWP.ret ?_
    subst hR
    exact es
end N169
def D_znb : DF
 | [x0]=>some (.tup [.int .i64 ((znb (rdS x0)).1),.bool ((znb (rdS x0)).2)],false,[wS x0])
 | _=>none
theorem yhy:OkD Tryz.prog 169 D_znb:=by unfold D_znb;exact dk N169.den
end Go.Ab

namespace Go.Ab
open Go Go.Proofs
def yuz (a0:(List UInt8)) (a1:Int) (i1:Nat) (s1:Int×List (List UInt8)):Except ((List (List UInt8))) (Int×List (List UInt8)):=
 (bif (((a0.getD i1 0).toNat:Int) == a1)then .ok (IntKind.wrap .i64 ((i1:Int)+1),s1.2++[(a0.take i1).drop ((s1.1).toNat)])else .ok (s1.1,s1.2))
def za (a0:(List UInt8)) (a1:Int):(List (List UInt8)):=
 (match ye (yuz a0 a1) (a0.length-0) 0 (0,([]:List (List UInt8)))with|.error e=>e|.ok s1=>s1.2++[(a0.take a0.length).drop ((s1.1).toNat)])
namespace N165
theorem DD:DOk Tryz.prog (Go.Ab.DD []):=yc _
theorem den (a0:(List UInt8)) (a1:Int) (hb0:a0.length<1099511627776) (hp0:a0.length≤1048576):Den Tryz.prog 165 [.str a0,.int .u8 a1] (ownL 9 1 eS (za a0 a1)):=by
 generalize hR:za a0 a1=r
 unfold za at hR
 refine di Tryz.func165 Tryz.ntmps165 Tryz.results165 ?_
 intro c hL hc hk
 obtain⟨hL0,hL1,_⟩:=hL
 have hw0:a0.length<9223372036854775808:=Nat.lt_succ_of_le hL0
 clear hL0 hL1
 simp only[pars,Nat.zero_add]
 iterate 4 refine rS ?_
 refine AWP.block ?_
 generalize hz1:ye (yuz a0 a1) (a0.length-0) 0 (0,([]:List (List UInt8)))=z1 at hR
 refine AWP.range (yuz a0 a1) (fun i1 s1=>⟨[(0,.str a0),(1,.int .u8 a1),(5,.ref 0 1 0 s1.2.length),(6,.int .i64 s1.1),(7,.int .i64 (i1:Int))],[.arr 9 1 s1.2.length (fun j=>eS (s1.2.getD j default))]⟩) (fun i1 s1=>s1.2.length≤([]:List (List UInt8)).length+1 * i1∧0≤s1.1∧s1.1≤i1∧s1.2.length≤i1) (a0.length) 0 (0,([]:List (List UInt8))) [0] hz1 ot wt sm ?_
 clear hz1
 intro i1 s1 hi1 hW1 hz1
 refine rS ?_
 refine AWP.cond rfl (fun hb => ?_) (fun hb => ?_)
 ·have hlt1:i1<a0.length:=ot
  rw[yj hlt1]at hz1;simp only[yuz]at hz1
  refine rS ?_
  refine AWP.cond rfl (fun hb => ?_) (fun hb => ?_)
  ·simp only[hb,cond_true]at hz1
   iterate 3 refine rS ?_
   exact⟨_,[2],hlt1,wt,hz1,sm⟩
  ·simp only[hb,cond_false]at hz1
   refine rS ?_
   exact⟨_,[0],hlt1,wt,hz1,sm⟩
 ·obtain rfl:i1=a0.length:=ot
  rw[yi (Nat.le_refl _)]at hz1;subst hz1;dsimp only at hR
  refine AWP.exit ?_;refine yb ?_
  refine rS ?_
  refine AWP.ret ?_
  subst hR
  exact es
end N165
def D_za : DF
 | [x0,x1]=>some (ownL 9 1 eS (za (rdS x0) (rdI x1)),false,[wS x0,wI .u8 x1,(rdS x0).length<1099511627776,(rdS x0).length≤1048576])
 | _=>none
theorem yvh:OkD Tryz.prog 165 D_za:=by unfold D_za;exact dk N165.den
end Go.Ab

namespace Go.Ab
open Go Go.Proofs
theorem ygf (a:List UInt8) (c:UInt8) (ha:a.length≤1099511627776):∀ (k i f:Nat) (out:List (List UInt8)),i+k=a.length→f≤i→(∀ j,f≤j→j<i→a.getD j 0≠c) →
  ∃ s:Int×List (List UInt8),ye (yuz a c.toNat) k i ((f:Int),out)=.ok s∧s.2++[(a.take a.length).drop s.1.toNat]=out++yh c (a.drop f)
 | 0,i,f,out,hk,hf,hn=>by
  refine⟨_,rfl,?_⟩
  simp only[Int.toNat_natCast,List.take_length]
  rw[ypb]
  intro hc
  obtain⟨j,hj⟩:=List.getElem?_of_mem hc
  rw[List.getElem?_drop]at hj
  have hlt:=(List.getElem?_eq_some_iff.1 hj).1
  refine hn (f+j) (by omega) (by omega) ?_
  rw[List.getD_eq_getElem?_getD,hj];rfl
 | k+1,i,f,out,hk,hf,hn=>by
  have hlt:i<a.length:=by omega
  simp only[ye,yuz]
  by_cases hc:a.getD i 0=c
  ·have hb:(((a.getD i 0).toNat:Int) == (c.toNat:Int))=true:=by rw[hc];simp
   simp only[hb,cond_true,Int.toNat_natCast]
   have hw:IntKind.wrap .i64 ((i:Int)+1)=((i+1:Nat):Int):=by rw[IntKind.wrap_i64];omega
   rw[hw]
   obtain⟨s,h1,h2⟩:=ygf a c ha k (i+1) (i+1) (out++[(a.take i).drop f]) (by omega) (Nat.le_refl _) (fun j h1 h2=>by omega)
   refine⟨s,h1,?_⟩
   rw[h2,List.append_assoc]
   congr 1
   have he:a.drop f=(a.take i).drop f++c::a.drop (i+1):=by
    have h3:a=a.take i++c::a.drop (i+1):=by
     conv=>lhs;rw[← List.take_append_drop i a]
     rw[List.drop_eq_getElem_cons hlt]
     congr 2
     rw[← hc,List.getD_eq_getElem?_getD,List.getElem?_eq_getElem hlt];rfl
    conv=>lhs;rw[h3]
    rw[List.drop_append_of_le_length (by simp;omega)]
   rw[he,ybb]
   ·rfl
   ·intro hm
    obtain⟨j,hj⟩:=List.getElem?_of_mem hm
    rw[List.getElem?_drop]at hj
    have hl:=(List.getElem?_eq_some_iff.1 hj).1
    simp only[List.length_take]at hl
    rw[List.getElem?_take_of_lt (by omega)]at hj
    refine hn (f+j) (by omega) (by omega) ?_
    rw[List.getD_eq_getElem?_getD,hj];rfl
  ·have hb:(((a.getD i 0).toNat:Int) == (c.toNat:Int))=false:=by
    simp only[beq_eq_false_iff_ne]
    intro h
    exact hc (UInt8.toNat_inj.1 (by omega))
   simp only[hb,cond_false]
   exact ygf a c ha k (i+1) f out (by omega) (by omega) (fun j h1 h2=>by
    by_cases hji:j=i
    ·subst hji;exact hc
    ·exact hn j h1 (by omega))
theorem ywk (a:List UInt8) (c:UInt8) (ha:a.length≤1099511627776):za a c.toNat=yh c a:=by
 obtain⟨s,h1,h2⟩:=ygf a c ha a.length 0 0 [] (by omega) (Nat.le_refl _) (fun j h1 h2=>by omega)
 unfold za
 simp only[Nat.sub_zero]
 rw[show((0:Int),([]:List (List UInt8)))=(((0:Nat):Int),[])from rfl,h1]
 simpa using h2
theorem yzcb (a:List UInt8) (ha:a.length≤1048576):∀ x∈za a 32,x.length≤1048576:=by
 intro x hx
 rw[show(32:Int)=(((32:UInt8).toNat:Nat):Int)from rfl,ywk a 32 (by omega)]at hx
 have:=(yx 32 a).2 x hx
 omega
end Go.Ab

namespace Go.Ab
open Go Go.Proofs
theorem y4 (a:List UInt8) (h:a.length≤1048576):(za a 43).length≤1048577:=by
 rw[show za a 43=yh 43 a from ywk a 43 (by omega)]
 have:=(yx 43 a).1
 omega
theorem yfc (a:List UInt8) (i:Nat) (h:a.length≤1048576):((za a 43).getD i default).length≤1048576:=by
 rw[show za a 43=yh 43 a from ywk a 43 (by omega),List.getD_eq_getElem?_getD]
 cases hg:(yh 43 a)[i]? with
 | none=>show(0:Nat)≤1048576;omega
 | some x=>have:=(yx 43 a).2 x (List.mem_of_getElem? hg);simp only[Option.getD_some];omega
end Go.Ab

namespace Go.Ab
open Go Go.Proofs
theorem yh1 {l:List (List UInt8)} {m:Nat} (h:∀ x∈l,x.length≤m) (i:Nat):(l.getD i default).length≤m:=by
 rw[List.getD_eq_getElem?_getD]
 cases hg:l[i]? with
 | none=>exact Nat.zero_le _
 | some x=>exact h x (List.mem_of_getElem? hg)
theorem ypd (a:List UInt8) (n:Int) (c:UInt8) (hc:(c.toNat:Int)=n) (ha:a.length≤1048576) (i:Nat):((za a n).getD i default).length≤a.length:=by
 rw[← hc,ywk a c (by omega)]
 exact yh1 (yx c a).2 i
theorem yv3 (a:List UInt8) (n:Int) (c:UInt8) (hc:(c.toNat:Int)=n) (ha:a.length≤1048576):(za a n).length≤a.length+1:=by
 rw[← hc,ywk a c (by omega)]
 exact(yx c a).1
theorem y1p (a:List UInt8) (c:UInt8) (i:Nat):((zb a [c]).getD i default).length≤a.length:=yh1 (yx c a).2 i
theorem yxw (a:List UInt8) (c:UInt8):(zb a [c]).length≤a.length+1:=(yx c a).1
theorem yj1 {y:List UInt8} (h:y≠[]) (hl:y.length≤1048576):IntKind.wrap .i64 ((y.length:Int)-1)=(y.length:Int)-1∧(List.take (IntKind.wrap .i64 ((y.length:Int)-1)).toNat y).length≤1048576∧1≤y.length:=by
 have:=List.length_pos_iff.2 h
 refine⟨by rw[IntKind.wrap_i64];omega,?_,this⟩
 rw[List.length_take];omega
end Go.Ab

namespace Go.Ab
open Go Go.Proofs
def zrc (a0:(List UInt8)):(Point×Bool):=
 (bif (((za a0 44).length:Int) != 2)then({ X:=0,Y:=0:Point },false)else(bif (((!((zf ((za a0 44).getD 0 default)).2)) || (!((zf ((za a0 44).getD 1 default)).2))) || (!(zgd ({ X:=(zf ((za a0 44).getD 0 default)).1,Y:=(zf ((za a0 44).getD 1 default)).1:Point }))))then({ X:=0,Y:=0:Point },false)else({ X:=(zf ((za a0 44).getD 0 default)).1,Y:=(zf ((za a0 44).getD 1 default)).1:Point },true)))
namespace N230
theorem DD:DOk Tryz.prog (Go.Ab.DD [(165,dP D_za),(168,dP D_zf),(196,dP D_zgd)]):=ya yvh.e <| ya ynj.e <| ya yzx.e <| yc _
theorem dn:type_of% (And.intro @D_za.eq_1 <| And.intro @D_zf.eq_1 <| @D_zgd.eq_1):=by and_intros<;>intros<;>rfl
theorem gr {p:Prop} (h:p:=by(grind [y4,yfc]);first|done|fail):p:=h
set_option maxHeartbeats 1000000 in
set_option maxRecDepth 20000 in
theorem den (a0:(List UInt8)) (hb0:a0.length<1099511627776) (hp0:a0.length≤1048576):Den Tryz.prog 230 [.str a0] (.tup [.agg (ytd ((zrc a0).1)),.bool ((zrc a0).2)]):=by
 generalize hR:zrc a0=r
 unfold zrc at hR
 refine di Tryz.func230 Tryz.ntmps230 Tryz.results230 ?_
 intro c hL hc hk
 obtain⟨hL0,_⟩:=hL
 have hw0:a0.length<9223372036854775808:=Nat.lt_succ_of_le hL0
 clear hL0
 simp only[pars,Nat.zero_add]
 have s0_:=ypd a0 44 44 rfl (by omega) 0
 have s1_:=ypd a0 44 44 rfl (by omega) 1
 iterate 3 refine rS ?_
 refine AWP.cond rfl (fun hb => ?_) (fun hb => ?_)
 ·replace hR:=ct hR
  refine rS ?_
  refine AWP.ret ?_
  subst hR
  exact es
 ·replace hR:=cf hR
  iterate 4 refine rS ?_
  refine AWP.cond rfl (fun hb => ?_) (fun hb => ?_)
  ·replace hR:=ct hR
   refine rS ?_
   refine AWP.ret ?_
   subst hR
   exact es
  ·replace hR:=cf hR
   refine rS ?_
   refine AWP.ret ?_
   subst hR
   exact es
end N230
def D_zrc : DF
 | [x0]=>some (.tup [.agg (ytd ((zrc (rdS x0)).1)),.bool ((zrc (rdS x0)).2)],false,[wS x0,(rdS x0).length<1099511627776,(rdS x0).length≤1048576])
 | _=>none
theorem yi7:OkD Tryz.prog 230 D_zrc:=by unfold D_zrc;exact dk N230.den
end Go.Ab

namespace Go.Ab
open Go Go.Proofs
def ypw (a0:(List UInt8)) (i1:Nat) (s1:Unit):Except (Int) (Unit):=
 (bif (((zwb ).getD i1 default) == a0)then .error (i1:Int)else .ok ())
def zpe (a0:(List UInt8)):Int:=
 (match ye (ypw a0) (((zwb ).length)-0) 0 ()with|.error e=>e|.ok s1=>(-1))
namespace N345
theorem DD:DOk Tryz.prog (Go.Ab.DD [(333,dP D_zwb)]):=ya y6w.e <| yc _
theorem dn:type_of% (@D_zwb.eq_1):=by and_intros<;>intros<;>rfl
theorem den (a0:(List UInt8))  : Den Tryz.prog 345 [.str a0] (.int .i64 (zpe a0)):=by
 generalize hR:zpe a0=r
 unfold zpe at hR
 refine di Tryz.func345 Tryz.ntmps345 Tryz.results345 ?_
 intro c hL hc hk
 obtain⟨hL0,_⟩:=hL
 have hw0:a0.length<9223372036854775808:=Nat.lt_succ_of_le hL0
 clear hL0
 simp only[pars,Nat.zero_add]
 have hn2:zwb.length=10:=rfl
 iterate 3 refine rS ?_
 refine AWP.block ?_
 generalize hz1:ye (ypw a0) (((zwb ).length)-0) 0 ()=z1 at hR
 refine AWP.range (ypw a0) (fun i1 s1=>⟨[(0,.str a0),(3,.ref 0 1 0 ((zwb ).length)),(4,.int .i64 (i1:Int))],[.arr 9 1 (zwb ).length (fun j=>eS ((zwb ).getD j default))]⟩) (fun i1 s1=>True) (((zwb ).length)) 0 () [0] hz1 ot wt sm ?_
 clear hz1
 intro i1 s1 hi1 hW1 hz1
 refine rS ?_
 refine AWP.cond rfl (fun hb => ?_) (fun hb => ?_)
 ·have hlt1:i1<((zwb ).length):=ot
  rw[yj hlt1]at hz1;simp only[ypw]at hz1
  refine rS ?_
  refine AWP.cond rfl (fun hb => ?_) (fun hb => ?_)
  ·simp only[hb,cond_true]at hz1
   refine rS ?_
   refine AWP.ret ?_
   subst hz1
   dsimp only at hR
   subst hR
   exact es
  ·simp only[hb,cond_false]at hz1
   refine rS ?_
   exact⟨_,[0],hlt1,wt,hz1,sm⟩
 ·obtain rfl:i1=((zwb ).length):=ot
  rw[yi (Nat.le_refl _)]at hz1;subst hz1;dsimp only at hR
  refine AWP.exit ?_;refine yb ?_
  refine rS ?_
  refine AWP.ret ?_
  subst hR
  exact es
end N345
def D_zpe : DF
 | [x0]=>some (.int .i64 (zpe (rdS x0)),false,[wS x0])
 | _=>none
theorem ys6:OkD Tryz.prog 345 D_zpe:=by unfold D_zpe;exact dk N345.den
end Go.Ab

namespace Go.Ab
open Go Go.Proofs
def ynh (a0:(List UInt8)) (i1:Nat) (s1:List Sector):Except (((List Sector)×Bool)) (List Sector):=
 (bif ((((za ((za a0 44).getD i1 default) 45).length:Int) != 2) || decide ((((za ((za a0 44).getD i1 default) 45).getD 1 default).length:Int)<2))then .error ([],false)else(bif ((!((zf ((za ((za a0 44).getD i1 default) 45).getD 0 default)).2)) || (!((zf (((za ((za a0 44).getD i1 default) 45).getD 1 default).take ((IntKind.wrap .i64 ((((za ((za a0 44).getD i1 default) 45).getD 1 default).length:Int)-1)).toNat))).2)))then .error ([],false)else .ok (s1++[{ From:=(zf ((za ((za a0 44).getD i1 default) 45).getD 0 default)).1,To:=(zf (((za ((za a0 44).getD i1 default) 45).getD 1 default).take ((IntKind.wrap .i64 ((((za ((za a0 44).getD i1 default) 45).getD 1 default).length:Int)-1)).toNat))).1,Color:=(((za ((za a0 44).getD i1 default) 45).getD 1 default).take (((za ((za a0 44).getD i1 default) 45).getD 1 default).length)).drop ((IntKind.wrap .i64 ((((za ((za a0 44).getD i1 default) 45).getD 1 default).length:Int)-1)).toNat):Sector }])))
def zlb (a0:(List UInt8)):((List Sector)×Bool):=
 (bif (a0 == [45])then(([]:List Sector),true)else(bif decide (12<((za a0 44).length:Int))then([],false)else(match ye (ynh a0) (((za a0 44).length)-0) 0 ([]:List Sector)with|.error e=>e|.ok s1=>(bif (!(zx s1))then([],false)else(s1,true)))))
namespace N232
theorem DD:DOk Tryz.prog (Go.Ab.DD [(165,dP D_za),(168,dP D_zf),(200,dP D_zx)]):=ya yvh.e <| ya ynj.e <| ya y70.e <| yc _
theorem dn:type_of% (And.intro @D_za.eq_1 <| And.intro @D_zf.eq_1 <| @D_zx.eq_1):=by and_intros<;>intros<;>rfl
theorem gr {p:Prop} (h:p:=by(grind [y4,yfc]);first|done|fail):p:=h
theorem o0 {p:Prop} (h:p:=by(first|(obtain⟨q0,q1,q2,q3⟩:=hlo i1 (by assumption);have h1:=e1 i1;have h2:=e3 i1 0;have h3:=e3 i1 1;(repeat' with_reducible apply And.intro)<;>first|with_reducible assumption|exact q2|(rw[q1];omega)|omega)|(have h1:=e1 i1;have h2:=e3 i1 0;have h3:=e3 i1 1;(repeat' with_reducible apply And.intro)<;>first|with_reducible assumption|omega|(intros;omega))|(obtain⟨w1,w2,w3⟩:=hW1;(repeat' with_reducible apply And.intro)<;>first|with_reducible assumption|omega)|((repeat' with_reducible apply And.intro)<;>omega));first|done|fail):p:=h
theorem o2 {p:Prop} (h:p:=by(first|((repeat' with_reducible apply And.intro)<;>first|(simp only[List.length_append,List.length_singleton];(first|done|fail))|(rw[IntKind.wrap_i64];omega)|(intro j hj;by_cases hji:j<s1.length;(focus(simp only[yfw hji,y23 hji,cond_true];first|(first|done|fail)|with_reducible rfl));(have e0:j-s1.length=0:=by omega);(simp only[yky hji hj,yd6 hji,cond_false,e0,elt,borrowL,borrow];first|(first|done|fail)|with_reducible rfl))|decide));first|done|fail):p:=h
set_option maxHeartbeats 1000000 in
set_option maxRecDepth 20000 in
theorem den (a0:(List UInt8)) (hb0:a0.length<1099511627776) (hp0:a0.length≤1048576):Den Tryz.prog 232 [.str a0] (.tup [ownL 188 3 yk ((zlb a0).1),.bool ((zlb a0).2)]):=by
 generalize hR:zlb a0=r
 unfold zlb at hR
 refine di Tryz.func232 Tryz.ntmps232 Tryz.results232 ?_
 intro c hL hc hk
 obtain⟨hL0,_⟩:=hL
 have hw0:a0.length<9223372036854775808:=Nat.lt_succ_of_le hL0
 clear hL0
 simp only[pars,Nat.zero_add]
 have e1:=fun i=>ypd a0 44 44 rfl (by omega) i
 have e2:=yv3 a0 44 44 rfl (by omega)
 have e3:=fun i k:Nat=>ypd ((za a0 44).getD i default) 45 45 rfl (by have:=e1 i;omega) k
 have hlo:∀ (i:Nat),((((za ((za a0 44).getD i default) 45).length:Int) != 2) || decide ((((za ((za a0 44).getD i default) 45).getD 1 default).length:Int)<2))=false→_:=fun i h=>And.intro (show(za ((za a0 44).getD i default) 45).length=2 by rw[Bool.or_eq_false_iff]at h;have h:=h.1;simp only[bne_eq_false_iff_eq]at h;omega) (yj1 (y:=((za ((za a0 44).getD i default) 45).getD 1 default)) (by intro e;rw[Bool.or_eq_false_iff]at h;have h:=h.2;rw[e]at h;exact absurd h (by decide)) (by have h1:=e1 i;have h2:=e3 i 1;omega))
 iterate 2 refine rS ?_
 refine AWP.cond rfl (fun hb => ?_) (fun hb => ?_)
 ·replace hR:=ct hR
  refine rS ?_
  refine AWP.ret ?_
  subst hR
  exact es
 ·replace hR:=cf hR
  iterate 2 refine rS ?_
  refine AWP.cond rfl (fun hb => ?_) (fun hb => ?_)
  ·replace hR:=ct hR
   refine rS ?_
   refine AWP.ret ?_
   subst hR
   exact es
  ·replace hR:=cf hR
   iterate 2 refine rS ?_
   refine AWP.block ?_
   generalize hz1:ye (ynh a0) (((za a0 44).length)-0) 0 ([]:List Sector)=z1 at hR
   refine AWP.range (ynh a0) (fun i1 s1=>⟨[(4,.ref 0 1 0 ((za a0 44).length)),(5,.ref 1 3 0 s1.length),(6,.int .i64 (i1:Int))],[.arr 9 1 (za a0 44).length (fun j=>eS ((za a0 44).getD j default)),.arr 188 3 s1.length (fun j=>yk (s1.getD j default))]⟩) (fun i1 s1=>s1.length≤([]:List Sector).length+1 * i1∧s1.length≤i1∧∀ v∈s1,bdSector v) (((za a0 44).length)) 0 ([]:List Sector) [0,1] hz1 ot (by(simp)) sm ?_
   clear hz1
   intro i1 s1 hi1 hW1 hz1
   have hV1:=hW1;obtain⟨hV1_0,hV1_1,hV1_2⟩:=hV1
   refine rS ?_
   refine AWP.cond rfl (fun hb => ?_) (fun hb => ?_)
   ·have hlt1:i1<((za a0 44).length):=ot
    rw[yj hlt1]at hz1;simp only[ynh]at hz1
    iterate 2 refine rS ?_
    refine AWP.cond rfl (fun hb => ?_) (fun hb => ?_)
    ·simp only[hb,cond_true]at hz1
     refine rS ?_
     refine AWP.ret ?_
     subst hz1
     dsimp only at hR
     subst hR
     exact es
    ·simp only[hb,cond_false]at hz1
     iterate 4 refine rS ?_
     refine AWP.cond rfl (fun hb => ?_) (fun hb => ?_)
     ·simp only[hb,cond_true]at hz1
      refine rS ?_
      refine AWP.ret ?_
      subst hz1
      dsimp only at hR
      subst hR
      exact es
     ·simp only[hb,cond_false]at hz1
      iterate 2 refine rS ?_
      exact⟨_,[0,4],hlt1,by(have h1:=e1 i1;have c1:=e3 i1 1;obtain⟨w0,w1,w2⟩:=hW1;refine⟨by simp only[List.length_append,List.length_cons,List.length_nil,List.length_singleton];omega,by simp only[List.length_append,List.length_cons,List.length_nil,List.length_singleton];omega,fun v hv=>(List.mem_append.1 hv).elim (fun h=>w2 v h) (fun h=>by rw[List.mem_singleton]at h;subst h;show List.length _<1099511627776;simp only[List.length_drop,List.length_take];omega)⟩),hz1,sm⟩
   ·obtain rfl:i1=((za a0 44).length):=ot
    rw[yi (Nat.le_refl _)]at hz1;subst hz1;dsimp only at hR
    refine AWP.exit ?_;refine yb ?_
    refine rS ?_
    refine AWP.cond rfl (fun hb => ?_) (fun hb => ?_)
    ·replace hR:=ct hR
     refine rS ?_
     refine AWP.ret ?_
     subst hR
     exact es
    ·replace hR:=cf hR
     refine rS ?_
     refine AWP.ret ?_
     subst hR
     exact es
end N232
def D_zlb : DF
 | [x0]=>some (.tup [ownL 188 3 yk ((zlb (rdS x0)).1),.bool ((zlb (rdS x0)).2)],false,[wS x0,(rdS x0).length<1099511627776,(rdS x0).length≤1048576])
 | _=>none
theorem yq8:OkD Tryz.prog 232 D_zlb:=by unfold D_zlb;exact dk N232.den
end Go.Ab
