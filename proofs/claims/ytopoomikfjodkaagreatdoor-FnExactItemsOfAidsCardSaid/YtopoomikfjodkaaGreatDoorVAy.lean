/- A part of a proof: walks of functions and lemmas of our own. No conditions. -/
import Derived.Test.YtopoomikfjodkaaGreatDoorVAl
import Derived.Test.YtopoomikfjodkaaGreatDoorVAp
set_option linter.unusedSectionVars false
set_option linter.unusedVariables false
set_option linter.unusedSimpArgs false
set_option maxHeartbeats 1000000
namespace Go.Ab
open Go Go.Proofs
def ze (a0:Int) (a1:Int) (a2:Int):Bool:=
 (decide (a1≤a0) && decide (a0≤a2))
namespace N170
theorem DD:DOk Tryz.prog (Go.Ab.DD []):=yd _
theorem den (a0:Int) (a1:Int) (a2:Int)  : Den Tryz.prog 170 [.int .i64 a0,.int .i64 a1,.int .i64 a2] (.bool (ze a0 a1 a2)):=by
 generalize hR:ze a0 a1 a2=r
 unfold ze at hR
 refine di Tryz.func170 Tryz.ntmps170 Tryz.results170 ?_
 intro c hL hc hk
 clear hL
 simp only[pars,Nat.zero_add]
 iterate 2 refine rS ?_
 refine AWP.ret ?_
 subst hR
 exact es
end N170
def D_ze : DF
 | [x0,x1,x2]=>some (.bool (ze (rdI x0) (rdI x1) (rdI x2)),false,[wI .i64 x0,wI .i64 x1,wI .i64 x2])
 | _=>none
theorem yld:OkD Tryz.prog 170 D_ze:=by unfold D_ze;exact dk N170.den
end Go.Ab

namespace Go.Ab
open Go Go.Proofs
def zpg (a0:Sector):Bool:=
 ((ze a0.From 0 359) && (ze a0.To 0 359))
namespace N331
theorem DD:DOk Tryz.prog (Go.Ab.DD [(170,dP D_ze)]):=ya yld.e <| yd _
theorem dn:type_of% (@D_ze.eq_1):=by and_intros<;>intros<;>rfl
theorem ol:type_of% (@ze.eq_1):=@ze.eq_1
theorem den (a0:Sector)  : Den Tryz.prog 331 [.ep (eSector a0)] (.bool (zpg a0)):=by
 generalize hR:zpg a0=r
 unfold zpg at hR
 refine di Tryz.func331 Tryz.ntmps331 Tryz.results331 ?_
 intro c hL hc hk
 obtain⟨hL0,_⟩:=hL
 have hw0:bwSector a0:=yn a0 hL0
 clear hL0
 simp only[pars,Nat.zero_add]
 iterate 2 refine rS ?_
 refine AWP.ret ?_
 subst hR
 exact es
end N331
def D_zpg : DF
 | [x0]=>some (.bool (zpg (rdP yk x0)),false,[wP eSector yk x0])
 | _=>none
theorem y0y:OkD Tryz.prog 331 D_zpg:=by unfold D_zpg;exact dk N331.den
end Go.Ab

namespace Go.Ab
open Go Go.Proofs
def zjf (a0:(List UInt8)):Bool:=
 ((((a0 == [87]) || (a0 == [82])) || (a0 == [71])) || (a0 == [89]))
namespace N332
theorem DD:DOk Tryz.prog (Go.Ab.DD []):=yd _
theorem den (a0:(List UInt8))  : Den Tryz.prog 332 [.str a0] (.bool (zjf a0)):=by
 generalize hR:zjf a0=r
 unfold zjf at hR
 refine di Tryz.func332 Tryz.ntmps332 Tryz.results332 ?_
 intro c hL hc hk
 obtain⟨hL0,_⟩:=hL
 have hw0:a0.length<9223372036854775808:=Nat.lt_succ_of_le hL0
 clear hL0
 simp only[pars,Nat.zero_add]
 iterate 2 refine rS ?_
 refine AWP.ret ?_
 subst hR
 exact es
end N332
def D_zjf : DF
 | [x0]=>some (.bool (zjf (rdS x0)),false,[wS x0])
 | _=>none
theorem ypz:OkD Tryz.prog 332 D_zjf:=by unfold D_zjf;exact dk N332.den
end Go.Ab

namespace Go.Ab
open Go Go.Proofs
def zmd (a0:Sector):Bool:=
 ((zpg a0) && (zjf a0.Color))
namespace N277
theorem DD:DOk Tryz.prog (Go.Ab.DD [(331,dP D_zpg),(332,dP D_zjf)]):=ya y0y.e <| ya ypz.e <| yd _
theorem dn:type_of% (And.intro @D_zpg.eq_1 <| @D_zjf.eq_1):=by and_intros<;>intros<;>rfl
theorem den (a0:Sector)  : Den Tryz.prog 277 [.ep (eSector a0)] (.bool (zmd a0)):=by
 generalize hR:zmd a0=r
 unfold zmd at hR
 refine di Tryz.func277 Tryz.ntmps277 Tryz.results277 ?_
 intro c hL hc hk
 obtain⟨hL0,_⟩:=hL
 have hw0:bwSector a0:=yn a0 hL0
 clear hL0
 simp only[pars,Nat.zero_add]
 iterate 2 refine rS ?_
 refine AWP.ret ?_
 subst hR
 exact es
end N277
def D_zmd : DF
 | [x0]=>some (.bool (zmd (rdP yk x0)),false,[wP eSector yk x0])
 | _=>none
theorem yhy:OkD Tryz.prog 277 D_zmd:=by unfold D_zmd;exact dk N277.den
end Go.Ab

namespace Go.Ab
open Go Go.Proofs
def zqg (a0:Sector):Int:=
 (bif (((IntKind.wrap .i64 ((IntKind.wrap .i64 (a0.To-a0.From))+360)).tmod 360) == 0)then 360 else(IntKind.wrap .i64 ((IntKind.wrap .i64 (a0.To-a0.From))+360)).tmod 360)
namespace N278
theorem DD:DOk Tryz.prog (Go.Ab.DD []):=yd _
theorem den (a0:Sector)  : Den Tryz.prog 278 [.ep (eSector a0)] (.int .i64 (zqg a0)):=by
 generalize hR:zqg a0=r
 unfold zqg at hR
 refine di Tryz.func278 Tryz.ntmps278 Tryz.results278 ?_
 intro c hL hc hk
 obtain⟨hL0,_⟩:=hL
 have hw0:bwSector a0:=yn a0 hL0
 clear hL0
 simp only[pars,Nat.zero_add]
 refine rS ?_
 refine rD 11 ?_
 refine rS ?_
 refine AWP.cond rfl (fun hb => ?_) (fun hb => ?_)
 ·replace hR:=ct hR
  refine rS ?_
  refine AWP.ret ?_
  subst hR
  exact es
 ·replace hR:=cf hR
  refine rS ?_
  refine AWP.ret ?_
  subst hR
  exact es
end N278
def D_zqg : DF
 | [x0]=>some (.int .i64 (zqg (rdP yk x0)),false,[wP eSector yk x0])
 | _=>none
theorem yzx:OkD Tryz.prog 278 D_zqg:=by unfold D_zqg;exact dk N278.den
end Go.Ab

namespace Go.Ab
open Go Go.Proofs
def yvu (a0:(List Sector)) (i1:Nat) (s1:Unit):Except (Bool) (Unit):=
 (bif ((!(zmd (a0.getD i1 default))) || (decide (0<(i1:Int)) && decide (((a0.getD i1 default).From)≤((a0.getD ((IntKind.wrap .i64 ((i1:Int)-1)).toNat) default).From))))then .error false else .ok ())
def yoq (a0:(List Sector)) (s1:Unit) (s2:Int):Except (Sum (Bool) (Int)) (Int):=
 (bif (decide (s2<(a0.length:Int)) && decide (1<(a0.length:Int)))then(bif decide (((IntKind.wrap .i64 ((IntKind.wrap .i64 (((a0.getD (((IntKind.wrap .i64 (s2+1)).tmod (a0.length:Int)).toNat) default).From)-((a0.getD ((s2).toNat) default).From)))+360)).tmod 360)<(zqg (a0.getD ((s2).toNat) default)))then .error (.inl false)else .ok (IntKind.wrap .i64 (s2+1)))else .error (.inr s2))
def zq (a0:(List Sector)):Bool:=
 (bif decide (12<(a0.length:Int))then false else(match yf (yvu a0) (a0.length-0) 0 ()with|.error e=>e|.ok s1=>(match ynb (yoq a0 s1) ((a0.length-((0:Int)).toNat)+1) 0 with|.error (.inl e)=>e|.error (.inr s2)=>true|.ok _=>default)))
namespace N200
theorem DD:DOk Tryz.prog (Go.Ab.DD [(277,dP D_zmd),(278,dP D_zqg)]):=ya yhy.e <| ya yzx.e <| yd _
theorem dn:type_of% (And.intro @D_zmd.eq_1 <| @D_zqg.eq_1):=by and_intros<;>intros<;>rfl
theorem o0 {p:Prop} (h:p:=by(first|(have hb2:=hb;simp only[Bool.and_eq_true,decide_eq_true_eq]at hb2;have h9:=yr4 hW2.1 hb2.1 (by omega);and_intros<;>first|omega|exact h9.1|exact h9.2));first|done|fail):p:=h
theorem den (a0:(List Sector))  : Den Tryz.prog 200 [encL 3 eSector a0] (.bool (zq a0)):=by
 generalize hR:zq a0=r
 unfold zq at hR
 refine di Tryz.func200 Tryz.ntmps200 Tryz.results200 ?_
 intro c hL hc hk
 obtain⟨hL0,_⟩:=hL
 have hw0:a0.length<9223372036854775808:=Nat.lt_succ_of_le (ye hL0).1
 have hw1:∀ v∈a0,bwSector v:=fun v hv=>yn v ((ye hL0).2 v hv)
 clear hL0
 simp only[pars,Nat.zero_add]
 iterate 3 refine rS ?_
 refine AWP.cond rfl (fun hb => ?_) (fun hb => ?_)
 ·replace hR:=ct hR
  refine rS ?_
  refine AWP.ret ?_
  subst hR
  exact es
 ·replace hR:=cf hR
  refine rS ?_
  refine AWP.block ?_
  generalize hz1:yf (yvu a0) (a0.length-0) 0 ()=z1 at hR
  refine AWP.range (yvu a0) (fun i1 s1=>⟨[(0,encL 3 eSector a0),(3,.int .i64 (a0.length:Int)),(4,.int .i64 (i1:Int))],[]⟩) (fun i1 s1=>True) (a0.length) 0 () [] hz1 ot wt sm ?_
  clear hz1
  intro i1 s1 hi1 hW1 hz1
  refine rS ?_
  refine AWP.cond rfl (fun hb => ?_) (fun hb => ?_)
  ·have hlt1:i1<a0.length:=ot
   rw[yh hlt1]at hz1;simp only[yvu]at hz1
   refine rD 23 ?_
   refine AWP.cond rfl (fun hb => ?_) (fun hb => ?_)
   ·simp only[hb,cond_true]at hz1
    refine rS ?_
    refine AWP.ret ?_
    subst hz1
    dsimp only at hR
    subst hR
    exact es
   ·simp only[hb,cond_false]at hz1
    refine rS ?_
    exact⟨_,[],hlt1,wt,hz1,sm⟩
  ·obtain rfl:i1=a0.length:=ot
   rw[yi (Nat.le_refl _)]at hz1;subst hz1;dsimp only at hR
   refine AWP.exit ?_;refine yb ?_
   refine rS ?_
   refine AWP.block ?_
   generalize hz2:ynb (yoq a0 s1) ((a0.length-((0:Int)).toNat)+1) 0=z2 at hR
   refine AWP.whileW (yoq a0 s1) (fun s2=>⟨[(0,encL 3 eSector a0),(3,.int .i64 (a0.length:Int)),(5,.int .i64 s2)],[]⟩) (fun s2=>0≤s2∧s2≤a0.length) (fun s2=>a0.length-(s2).toNat) ((a0.length-((0:Int)).toNat)+1) 0 [] hz2 m0 wt sm ?_
   clear hz2
   intro s2 k2 hW2 hm2 hz2
   simp only[yoq]at hz2
   refine rS ?_
   refine AWP.cond rfl (fun hb => ?_) (fun hb => ?_)
   ·simp only[hb,cond_true]at hz2
    refine rD 21 ?_
    refine AWP.cond rfl (fun hb => ?_) (fun hb => ?_)
    ·simp only[hb,cond_true]at hz2
     refine rS ?_
     refine AWP.ret ?_
     subst hz2
     dsimp only at hR
     subst hR
     exact es
    ·simp only[hb,cond_false]at hz2
     refine rS ?_
     exact⟨_,[],ms,wt,hz2,sm⟩
   ·simp only[hb,cond_false]at hz2
    refine AWP.exit ?_
    refine yb ?_
    subst hz2;dsimp only at hR
    refine rS ?_
    refine AWP.ret ?_
    subst hR
    exact es
end N200
def D_zq : DF
 | [x0]=>some (.bool (zq (rdL yk x0)),false,[wL 3 eSector yk x0])
 | _=>none
theorem yy3:OkD Tryz.prog 200 D_zq:=by unfold D_zq;exact dk N200.den
end Go.Ab

namespace Go.Ab
open Go Go.Proofs
def zwe (a0:Int):(List UInt8):=
 (([[],[82],[71],[66,89],[66,89,66],[89,66],[89,66,89],[66,82,66],[82,87],[89]]:List (List UInt8)).getD ((a0).toNat) default)
namespace N173
theorem DD:DOk Tryz.prog (Go.Ab.DD []):=yd _
theorem lx {p:Prop} (h:p:=by(exact lxx);first|done|fail):p:=h
theorem den (a0:Int) (hp0:0≤a0) (hp1:a0≤9):Den Tryz.prog 173 [.int .i64 a0] (.str (zwe a0)):=by
 generalize hR:zwe a0=r
 unfold zwe at hR
 refine di Tryz.func173 Tryz.ntmps173 Tryz.results173 ?_
 intro c hL hc hk
 clear hL
 simp only[pars,Nat.zero_add]
 iterate 2 refine rS ?_
 refine AWP.ret ?_
 subst hR
 exact es
end N173
def D_zwe : DF
 | [x0]=>some (.str (zwe (rdI x0)),false,[wI .i64 x0,0≤(rdI x0),(rdI x0)≤9])
 | _=>none
theorem y41:OkD Tryz.prog 173 D_zwe:=by unfold D_zwe;exact dk N173.den
end Go.Ab

namespace Go.Ab
open Go Go.Proofs
def zxe (a0:Int):(List UInt8):=
 (([[],[99,97,110],[99,111,110,101],[117,112],[98,97,115,101],[100,111,119,110],[112,111,105,110,116],[98,97,108,108,115],[98,97,108,108],[99,114,111,115,115]]:List (List UInt8)).getD ((a0).toNat) default)
namespace N174
theorem DD:DOk Tryz.prog (Go.Ab.DD []):=yd _
theorem lx {p:Prop} (h:p:=by(exact lxx);first|done|fail):p:=h
theorem den (a0:Int) (hp0:0≤a0) (hp1:a0≤9):Den Tryz.prog 174 [.int .i64 a0] (.str (zxe a0)):=by
 generalize hR:zxe a0=r
 unfold zxe at hR
 refine di Tryz.func174 Tryz.ntmps174 Tryz.results174 ?_
 intro c hL hc hk
 clear hL
 simp only[pars,Nat.zero_add]
 iterate 2 refine rS ?_
 refine AWP.ret ?_
 subst hR
 exact es
end N174
def D_zxe : DF
 | [x0]=>some (.str (zxe (rdI x0)),false,[wI .i64 x0,0≤(rdI x0),(rdI x0)≤9])
 | _=>none
theorem yey:OkD Tryz.prog 174 D_zxe:=by unfold D_zxe;exact dk N174.den
end Go.Ab

namespace Go.Ab
open Go Go.Proofs
def zeb (a0:Int):(List (List UInt8)):=
 (bif (a0 == 1)then[[99,97,110],[112,105,108,108,97,114],[115,112,97,114]]else(bif (a0 == 2)then[[99,111,110,101],[112,105,108,108,97,114],[115,112,97,114]]else(bif (a0 == 8)then[[115,112,104,101,114,101],[112,105,108,108,97,114],[115,112,97,114]]else(bif (a0 == 9)then[[99,97,110],[99,111,110,101],[112,105,108,108,97,114],[115,112,97,114],[115,112,104,101,114,101]]else[[112,105,108,108,97,114],[115,112,97,114]]))))
namespace N176
theorem DD:DOk Tryz.prog (Go.Ab.DD []):=yd _
theorem lx {p:Prop} (h:p:=by(exact lxx);first|done|fail):p:=h
theorem den (a0:Int)  : Den Tryz.prog 176 [.int .i64 a0] (ownL 9 1 eS (zeb a0)):=by
 generalize hR:zeb a0=r
 unfold zeb at hR
 refine di Tryz.func176 Tryz.ntmps176 Tryz.results176 ?_
 intro c hL hc hk
 clear hL
 simp only[pars,Nat.zero_add]
 iterate 3 refine rS ?_
 refine AWP.cond rfl (fun hb => ?_) (fun hb => ?_)
 ·replace hR:=ct hR
  refine rS ?_
  refine AWP.ret ?_
  subst hR
  exact es
 ·replace hR:=cf hR
  refine rS ?_
  refine AWP.cond rfl (fun hb => ?_) (fun hb => ?_)
  ·replace hR:=ct hR
   refine rS ?_
   refine AWP.ret ?_
   subst hR
   exact es
  ·replace hR:=cf hR
   refine rS ?_
   refine AWP.cond rfl (fun hb => ?_) (fun hb => ?_)
   ·replace hR:=ct hR
    refine rS ?_
    refine AWP.ret ?_
    subst hR
    exact es
   ·replace hR:=cf hR
    refine rS ?_
    refine AWP.cond rfl (fun hb => ?_) (fun hb => ?_)
    ·replace hR:=ct hR
     refine rS ?_
     refine AWP.ret ?_
     subst hR
     exact es
    ·replace hR:=cf hR
     refine rS ?_
     refine AWP.ret ?_
     subst hR
     exact es
end N176
def D_zeb : DF
 | [x0]=>some (ownL 9 1 eS (zeb (rdI x0)),false,[wI .i64 x0])
 | _=>none
theorem yyz:OkD Tryz.prog 176 D_zeb:=by unfold D_zeb;exact dk N176.den
end Go.Ab

namespace Go.Ab
open Go Go.Proofs
def znc (a0:Int):Bool:=
 (ze a0 1 9)
namespace N307
theorem DD:DOk Tryz.prog (Go.Ab.DD [(170,dP D_ze)]):=ya yld.e <| yd _
theorem dn:type_of% (@D_ze.eq_1):=by and_intros<;>intros<;>rfl
theorem ol:type_of% (@ze.eq_1):=@ze.eq_1
theorem den (a0:Int)  : Den Tryz.prog 307 [.int .i64 a0] (.bool (znc a0)):=by
 generalize hR:znc a0=r
 unfold znc at hR
 refine di Tryz.func307 Tryz.ntmps307 Tryz.results307 ?_
 intro c hL hc hk
 clear hL
 simp only[pars,Nat.zero_add]
 iterate 2 refine rS ?_
 refine AWP.ret ?_
 subst hR
 exact es
end N307
def D_znc : DF
 | [x0]=>some (.bool (znc (rdI x0)),false,[wI .i64 x0])
 | _=>none
theorem ywx:OkD Tryz.prog 307 D_znc:=by unfold D_znc;exact dk N307.den
end Go.Ab

namespace Go.Ab
open Go Go.Proofs
def ygj (a0:Mark) (i1:Nat) (s1:Unit):Except (Bool) (Unit):=
 (bif (((zeb a0.Kind).getD i1 default) == a0.Shape)then .error true else .ok ())
def zjb (a0:Mark):Bool:=
 (bif (a0.Kind == 0)then(a0.Kind == 0 && (a0.Colors == [] && (a0.Shape == [] && a0.Topmark == [])))else(bif (((!(znc a0.Kind)) || (a0.Colors != (zwe a0.Kind))) || ((a0.Topmark != []) && (a0.Topmark != (zxe a0.Kind))))then false else(match yf (ygj a0) (((zeb a0.Kind).length)-0) 0 ()with|.error e=>e|.ok s1=>false)))
namespace N273
theorem DD:DOk Tryz.prog (Go.Ab.DD [(173,dP D_zwe),(174,dP D_zxe),(176,dP D_zeb),(307,dP D_znc)]):=ya y41.e <| ya yey.e <| ya yyz.e <| ya ywx.e <| yd _
theorem dn:type_of% (And.intro @D_zwe.eq_1 <| And.intro @D_zxe.eq_1 <| And.intro @D_zeb.eq_1 <| @D_znc.eq_1):=by and_intros<;>intros<;>rfl
theorem o0 {p:Prop} (h:p:=by(first|(simp only[znc,ze];refine⟨fun h => ?_,fun h _ => ?_⟩<;>(simp at h;omega)));first|done|fail):p:=h
theorem den (a0:Mark)  : Den Tryz.prog 273 [.ep (eMark a0)] (.bool (zjb a0)):=by
 generalize hR:zjb a0=r
 unfold zjb at hR
 refine di Tryz.func273 Tryz.ntmps273 Tryz.results273 ?_
 intro c hL hc hk
 obtain⟨hL0,_⟩:=hL
 have hw0:bwMark a0:=y2b a0 hL0
 clear hL0
 simp only[pars,Nat.zero_add]
 have hs5:(zeb a0.Kind).length≤5:=by unfold zeb;simp only[Bool.cond_eq_ite];(repeat' split)<;>simp
 iterate 2 refine rS ?_
 refine AWP.cond rfl (fun hb => ?_) (fun hb => ?_)
 ·replace hR:=ct hR
  refine rS ?_
  refine AWP.ret ?_
  subst hR
  exact es
 ·replace hR:=cf hR
  refine rD 37 ?_
  refine AWP.cond rfl (fun hb => ?_) (fun hb => ?_)
  ·replace hR:=ct hR
   refine rS ?_
   refine AWP.ret ?_
   subst hR
   exact es
  ·replace hR:=cf hR
   iterate 2 refine rS ?_
   refine AWP.block ?_
   generalize hz1:yf (ygj a0) (((zeb a0.Kind).length)-0) 0 ()=z1 at hR
   refine AWP.range (ygj a0) (fun i1 s1=>⟨[(0,.ep (eMark a0)),(3,.ref 0 1 0 ((zeb a0.Kind).length)),(4,.int .i64 (i1:Int))],[.arr 9 1 (zeb a0.Kind).length (fun j=>eS ((zeb a0.Kind).getD j default))]⟩) (fun i1 s1=>True) (((zeb a0.Kind).length)) 0 () [0] hz1 ot wt sm ?_
   clear hz1
   intro i1 s1 hi1 hW1 hz1
   refine rS ?_
   refine AWP.cond rfl (fun hb => ?_) (fun hb => ?_)
   ·have hlt1:i1<((zeb a0.Kind).length):=ot
    rw[yh hlt1]at hz1;simp only[ygj]at hz1
    refine rD 8 ?_
    refine AWP.cond rfl (fun hb => ?_) (fun hb => ?_)
    ·simp only[hb,cond_true]at hz1
     refine rS ?_
     refine AWP.ret ?_
     subst hz1
     dsimp only at hR
     subst hR
     exact es
    ·simp only[hb,cond_false]at hz1
     refine rS ?_
     exact⟨_,[0],hlt1,wt,hz1,sm⟩
   ·obtain rfl:i1=((zeb a0.Kind).length):=ot
    rw[yi (Nat.le_refl _)]at hz1;subst hz1;dsimp only at hR
    refine AWP.exit ?_;refine yb ?_
    refine rS ?_
    refine AWP.ret ?_
    subst hR
    exact es
end N273
def D_zjb : DF
 | [x0]=>some (.bool (zjb (rdP ync x0)),false,[wP eMark ync x0])
 | _=>none
theorem y5q:OkD Tryz.prog 273 D_zjb:=by unfold D_zjb;exact dk N273.den
end Go.Ab

namespace Go.Ab
open Go Go.Proofs
def zdd (a0:Mark):Bool:=
 (zjb a0)
namespace N197
theorem DD:DOk Tryz.prog (Go.Ab.DD [(273,dP D_zjb)]):=ya y5q.e <| yd _
theorem dn:type_of% (@D_zjb.eq_1):=by and_intros<;>intros<;>rfl
theorem den (a0:Mark)  : Den Tryz.prog 197 [.agg (eMark a0)] (.bool (zdd a0)):=by
 generalize hR:zdd a0=r
 unfold zdd at hR
 refine di Tryz.func197 Tryz.ntmps197 Tryz.results197 ?_
 intro c hL hc hk
 obtain⟨hL0,_⟩:=hL
 have hw0:bwMark a0:=y2b a0 hL0
 clear hL0
 simp only[pars,Nat.zero_add]
 iterate 2 refine rS ?_
 refine AWP.ret ?_
 subst hR
 exact es
end N197
def D_zdd : DF
 | [x0]=>some (.bool (zdd (rdG ync x0)),false,[wG eMark ync x0])
 | _=>none
theorem ys1:OkD Tryz.prog 197 D_zdd:=by unfold D_zdd;exact dk N197.den
end Go.Ab

namespace Go.Ab
open Go Go.Proofs
def zrg (a0:Int):Bool:=
 (decide (48≤a0) && decide (a0≤57))
namespace N253
theorem DD:DOk Tryz.prog (Go.Ab.DD []):=yd _
theorem den (a0:Int)  : Den Tryz.prog 253 [.int .u8 a0] (.bool (zrg a0)):=by
 generalize hR:zrg a0=r
 unfold zrg at hR
 refine di Tryz.func253 Tryz.ntmps253 Tryz.results253 ?_
 intro c hL hc hk
 clear hL
 simp only[pars,Nat.zero_add]
 iterate 2 refine rS ?_
 refine AWP.ret ?_
 subst hR
 exact es
end N253
def D_zrg : DF
 | [x0]=>some (.bool (zrg (rdI x0)),false,[wI .u8 x0])
 | _=>none
theorem ysy:OkD Tryz.prog 253 D_zrg:=by unfold D_zrg;exact dk N253.den
end Go.Ab

namespace Go.Ab
open Go Go.Proofs
def zke (a0:Int):Bool:=
 (decide (97≤a0) && decide (a0≤122))
namespace N272
theorem DD:DOk Tryz.prog (Go.Ab.DD []):=yd _
theorem den (a0:Int)  : Den Tryz.prog 272 [.int .u8 a0] (.bool (zke a0)):=by
 generalize hR:zke a0=r
 unfold zke at hR
 refine di Tryz.func272 Tryz.ntmps272 Tryz.results272 ?_
 intro c hL hc hk
 clear hL
 simp only[pars,Nat.zero_add]
 iterate 2 refine rS ?_
 refine AWP.ret ?_
 subst hR
 exact es
end N272
def D_zke : DF
 | [x0]=>some (.bool (zke (rdI x0)),false,[wI .u8 x0])
 | _=>none
theorem y20:OkD Tryz.prog 272 D_zke:=by unfold D_zke;exact dk N272.den
end Go.Ab

namespace Go.Ab
open Go Go.Proofs
def yis (a0:(List UInt8)) (i1:Nat) (s1:Unit):Except (Bool) (Unit):=
 (bif ((!(zke ((a0.getD i1 0).toNat:Int))) && (!(zrg ((a0.getD i1 0).toNat:Int))))then .error false else .ok ())
def zpb (a0:(List UInt8)):Bool:=
 (bif (((a0 == []) || decide (10<(a0.length:Int))) || (!(zke ((a0.getD 0 0).toNat:Int))))then false else(match yf (yis a0) (a0.length-0) 0 ()with|.error e=>e|.ok s1=>true))
namespace N195
theorem DD:DOk Tryz.prog (Go.Ab.DD [(253,dP D_zrg),(272,dP D_zke)]):=ya ysy.e <| ya y20.e <| yd _
theorem dn:type_of% (And.intro @D_zrg.eq_1 <| @D_zke.eq_1):=by and_intros<;>intros<;>rfl
theorem den (a0:(List UInt8))  : Den Tryz.prog 195 [.str a0] (.bool (zpb a0)):=by
 generalize hR:zpb a0=r
 unfold zpb at hR
 refine di Tryz.func195 Tryz.ntmps195 Tryz.results195 ?_
 intro c hL hc hk
 obtain⟨hL0,_⟩:=hL
 have hw0:a0.length<9223372036854775808:=Nat.lt_succ_of_le hL0
 clear hL0
 simp only[pars,Nat.zero_add]
 iterate 2 refine rS ?_
 refine AWP.cond rfl (fun hb => ?_) (fun hb => ?_)
 ·replace hR:=ct hR
  refine rS ?_
  refine AWP.ret ?_
  subst hR
  exact es
 ·replace hR:=cf hR
  refine rS ?_
  refine AWP.block ?_
  generalize hz1:yf (yis a0) (a0.length-0) 0 ()=z1 at hR
  refine AWP.range (yis a0) (fun i1 s1=>⟨[(0,.str a0),(3,.int .i64 (i1:Int))],[]⟩) (fun i1 s1=>True) (a0.length) 0 () [] hz1 ot wt sm ?_
  clear hz1
  intro i1 s1 hi1 hW1 hz1
  refine rS ?_
  refine AWP.cond rfl (fun hb => ?_) (fun hb => ?_)
  ·have hlt1:i1<a0.length:=ot
   rw[yh hlt1]at hz1;simp only[yis]at hz1
   refine rS ?_
   refine AWP.cond rfl (fun hb => ?_) (fun hb => ?_)
   ·simp only[hb,cond_true]at hz1
    refine rS ?_
    refine AWP.ret ?_
    subst hz1
    dsimp only at hR
    subst hR
    exact es
   ·simp only[hb,cond_false]at hz1
    refine rS ?_
    exact⟨_,[],hlt1,wt,hz1,sm⟩
  ·obtain rfl:i1=a0.length:=ot
   rw[yi (Nat.le_refl _)]at hz1;subst hz1;dsimp only at hR
   refine AWP.exit ?_;refine yb ?_
   refine rS ?_
   refine AWP.ret ?_
   subst hR
   exact es
end N195
def D_zpb : DF
 | [x0]=>some (.bool (zpb (rdS x0)),false,[wS x0])
 | _=>none
theorem y3r:OkD Tryz.prog 195 D_zpb:=by unfold D_zpb;exact dk N195.den
end Go.Ab

namespace Go.Ab
open Go Go.Proofs
def y1m (a0:(List Int)) (i1:Nat) (s1:Int):Except (Int) (Int):=
 .ok (IntKind.wrap .i64 (s1+(a0.getD i1 default)))
def zee (a0:(List Int)):Int:=
 (bif ((a0.length:Int) == 0)then 1 else(match yf (y1m a0) (a0.length-0) 0 0 with|.error e=>e|.ok s1=>s1))
namespace N356
theorem DD:DOk Tryz.prog (Go.Ab.DD []):=yd _
theorem den (a0:(List Int))  : Den Tryz.prog 356 [encL 1 yp a0] (.int .i64 (zee a0)):=by
 generalize hR:zee a0=r
 unfold zee at hR
 refine di Tryz.func356 Tryz.ntmps356 Tryz.results356 ?_
 intro c hL hc hk
 obtain⟨hL0,_⟩:=hL
 have hw0:a0.length<9223372036854775808:=Nat.lt_succ_of_le (ye hL0).1
 clear hL0
 simp only[pars,Nat.zero_add]
 iterate 2 refine rS ?_
 refine AWP.cond rfl (fun hb => ?_) (fun hb => ?_)
 ·replace hR:=ct hR
  refine rS ?_
  refine AWP.ret ?_
  subst hR
  exact es
 ·replace hR:=cf hR
  iterate 2 refine rS ?_
  refine AWP.block ?_
  generalize hz1:yf (y1m a0) (a0.length-0) 0 0=z1 at hR
  refine AWP.range (y1m a0) (fun i1 s1=>⟨[(0,encL 1 yp a0),(3,.int .i64 s1),(4,.int .i64 (i1:Int))],[]⟩) (fun i1 s1=>True) (a0.length) 0 0 [] hz1 ot wt sm ?_
  clear hz1
  intro i1 s1 hi1 hW1 hz1
  refine rS ?_
  refine AWP.cond rfl (fun hb => ?_) (fun hb => ?_)
  ·have hlt1:i1<a0.length:=ot
   rw[yh hlt1]at hz1;simp only[y1m]at hz1
   iterate 2 refine rS ?_
   exact⟨_,[],hlt1,wt,hz1,sm⟩
  ·obtain rfl:i1=a0.length:=ot
   rw[yi (Nat.le_refl _)]at hz1;subst hz1;dsimp only at hR
   refine AWP.exit ?_;refine yb ?_
   refine rS ?_
   refine AWP.ret ?_
   subst hR
   exact es
end N356
def D_zee : DF
 | [x0]=>some (.int .i64 (zee (rdL yob x0)),false,[wL 1 yp yob x0])
 | _=>none
theorem yfz:OkD Tryz.prog 356 D_zee:=by unfold D_zee;exact dk N356.den
end Go.Ab

namespace Go.Ab
open Go Go.Proofs
def yuo (a0:(List Int)) (i1:Nat) (s1:Unit):Except (Bool) (Unit):=
 (bif (!(ze (a0.getD i1 default) 1 9))then .error false else .ok ())
def zuc (a0:(List Int)):Bool:=
 (match yf (yuo a0) (a0.length-0) 0 ()with|.error e=>e|.ok s1=>((decide ((a0.length:Int)≤4) && (!(((a0.length:Int) == 1) && ((a0.getD 0 default) == 1)))) && decide ((zee a0)≤12)))
namespace N309
theorem DD:DOk Tryz.prog (Go.Ab.DD [(170,dP D_ze),(356,dP D_zee)]):=ya yld.e <| ya yfz.e <| yd _
theorem dn:type_of% (And.intro @D_ze.eq_1 <| @D_zee.eq_1):=by and_intros<;>intros<;>rfl
theorem ol:type_of% (@ze.eq_1):=@ze.eq_1
theorem den (a0:(List Int))  : Den Tryz.prog 309 [encL 1 yp a0] (.bool (zuc a0)):=by
 generalize hR:zuc a0=r
 unfold zuc at hR
 refine di Tryz.func309 Tryz.ntmps309 Tryz.results309 ?_
 intro c hL hc hk
 obtain⟨hL0,_⟩:=hL
 have hw0:a0.length<9223372036854775808:=Nat.lt_succ_of_le (ye hL0).1
 clear hL0
 simp only[pars,Nat.zero_add]
 iterate 2 refine rS ?_
 refine AWP.block ?_
 generalize hz1:yf (yuo a0) (a0.length-0) 0 ()=z1 at hR
 refine AWP.range (yuo a0) (fun i1 s1=>⟨[(0,encL 1 yp a0),(3,.int .i64 (i1:Int))],[]⟩) (fun i1 s1=>True) (a0.length) 0 () [] hz1 ot wt sm ?_
 clear hz1
 intro i1 s1 hi1 hW1 hz1
 refine rS ?_
 refine AWP.cond rfl (fun hb => ?_) (fun hb => ?_)
 ·have hlt1:i1<a0.length:=ot
  rw[yh hlt1]at hz1;simp only[yuo]at hz1
  refine rS ?_
  refine AWP.cond rfl (fun hb => ?_) (fun hb => ?_)
  ·simp only[hb,cond_true]at hz1
   refine rS ?_
   refine AWP.ret ?_
   subst hz1
   dsimp only at hR
   subst hR
   exact es
  ·simp only[hb,cond_false]at hz1
   refine rS ?_
   exact⟨_,[],hlt1,wt,hz1,sm⟩
 ·obtain rfl:i1=a0.length:=ot
  rw[yi (Nat.le_refl _)]at hz1;subst hz1;dsimp only at hR
  refine AWP.exit ?_;refine yb ?_
  refine rS ?_
  refine AWP.ret ?_
  subst hR
  exact es
end N309
def D_zuc : DF
 | [x0]=>some (.bool (zuc (rdL yob x0)),false,[wL 1 yp yob x0])
 | _=>none
theorem ym0:OkD Tryz.prog 309 D_zuc:=by unfold D_zuc;exact dk N309.den
end Go.Ab

namespace Go.Ab
open Go Go.Proofs
def zye (a0:Int):Int:=
 (bif (a0 == 87)then 1 else(bif (a0 == 82)then 2 else(bif (a0 == 71)then 3 else(bif (a0 == 89)then 4 else 0))))
namespace N366
theorem DD:DOk Tryz.prog (Go.Ab.DD []):=yd _
theorem den (a0:Int)  : Den Tryz.prog 366 [.int .u8 a0] (.int .i64 (zye a0)):=by
 generalize hR:zye a0=r
 unfold zye at hR
 refine di Tryz.func366 Tryz.ntmps366 Tryz.results366 ?_
 intro c hL hc hk
 clear hL
 simp only[pars,Nat.zero_add]
 iterate 3 refine rS ?_
 refine AWP.cond rfl (fun hb => ?_) (fun hb => ?_)
 ·replace hR:=ct hR
  refine rS ?_
  refine AWP.ret ?_
  subst hR
  exact es
 ·replace hR:=cf hR
  refine rS ?_
  refine AWP.cond rfl (fun hb => ?_) (fun hb => ?_)
  ·replace hR:=ct hR
   refine rS ?_
   refine AWP.ret ?_
   subst hR
   exact es
  ·replace hR:=cf hR
   refine rS ?_
   refine AWP.cond rfl (fun hb => ?_) (fun hb => ?_)
   ·replace hR:=ct hR
    refine rS ?_
    refine AWP.ret ?_
    subst hR
    exact es
   ·replace hR:=cf hR
    refine rS ?_
    refine AWP.cond rfl (fun hb => ?_) (fun hb => ?_)
    ·replace hR:=ct hR
     refine rS ?_
     refine AWP.ret ?_
     subst hR
     exact es
    ·replace hR:=cf hR
     refine rS ?_
     refine AWP.ret ?_
     subst hR
     exact es
end N366
def D_zye : DF
 | [x0]=>some (.int .i64 (zye (rdI x0)),false,[wI .u8 x0])
 | _=>none
theorem y8z:OkD Tryz.prog 366 D_zye:=by unfold D_zye;exact dk N366.den
end Go.Ab

namespace Go.Ab
open Go Go.Proofs
def ypk (a0:(List UInt8)) (i1:Nat) (s1:Unit):Except (Bool) (Unit):=
 (bif (((zye ((a0.getD i1 0).toNat:Int)) == 0) || (decide (0<(i1:Int)) && decide ((zye ((a0.getD i1 0).toNat:Int))≤(zye ((a0.getD ((IntKind.wrap .i64 ((i1:Int)-1)).toNat) 0).toNat:Int)))))then .error false else .ok ())
def znd (a0:(List UInt8)):Bool:=
 (match yf (ypk a0) (a0.length-0) 0 ()with|.error e=>e|.ok s1=>(decide (1≤(a0.length:Int)) && decide ((a0.length:Int)≤3)))
namespace N327
theorem DD:DOk Tryz.prog (Go.Ab.DD [(366,dP D_zye)]):=ya y8z.e <| yd _
theorem dn:type_of% (@D_zye.eq_1):=by and_intros<;>intros<;>rfl
theorem den (a0:(List UInt8))  : Den Tryz.prog 327 [.str a0] (.bool (znd a0)):=by
 generalize hR:znd a0=r
 unfold znd at hR
 refine di Tryz.func327 Tryz.ntmps327 Tryz.results327 ?_
 intro c hL hc hk
 obtain⟨hL0,_⟩:=hL
 have hw0:a0.length<9223372036854775808:=Nat.lt_succ_of_le hL0
 clear hL0
 simp only[pars,Nat.zero_add]
 iterate 2 refine rS ?_
 refine AWP.block ?_
 generalize hz1:yf (ypk a0) (a0.length-0) 0 ()=z1 at hR
 refine AWP.range (ypk a0) (fun i1 s1=>⟨[(0,.str a0),(3,.int .i64 (i1:Int))],[]⟩) (fun i1 s1=>True) (a0.length) 0 () [] hz1 ot wt sm ?_
 clear hz1
 intro i1 s1 hi1 hW1 hz1
 refine rS ?_
 refine AWP.cond rfl (fun hb => ?_) (fun hb => ?_)
 ·have hlt1:i1<a0.length:=ot
  rw[yh hlt1]at hz1;simp only[ypk]at hz1
  refine rD 21 ?_
  refine AWP.cond rfl (fun hb => ?_) (fun hb => ?_)
  ·simp only[hb,cond_true]at hz1
   refine rS ?_
   refine AWP.ret ?_
   subst hz1
   dsimp only at hR
   subst hR
   exact es
  ·simp only[hb,cond_false]at hz1
   refine rS ?_
   exact⟨_,[],hlt1,wt,hz1,sm⟩
 ·obtain rfl:i1=a0.length:=ot
  rw[yi (Nat.le_refl _)]at hz1;subst hz1;dsimp only at hR
  refine AWP.exit ?_;refine yb ?_
  refine rS ?_
  refine AWP.ret ?_
  subst hR
  exact es
end N327
def D_znd : DF
 | [x0]=>some (.bool (znd (rdS x0)),false,[wS x0])
 | _=>none
theorem y0z:OkD Tryz.prog 327 D_znd:=by unfold D_znd;exact dk N327.den
end Go.Ab

namespace Go.Ab
open Go Go.Proofs
def zzg (a0:Int):Bool:=
 (ze a0 1 8)
namespace N326
theorem DD:DOk Tryz.prog (Go.Ab.DD [(170,dP D_ze)]):=ya yld.e <| yd _
theorem dn:type_of% (@D_ze.eq_1):=by and_intros<;>intros<;>rfl
theorem ol:type_of% (@ze.eq_1):=@ze.eq_1
theorem den (a0:Int)  : Den Tryz.prog 326 [.int .i64 a0] (.bool (zzg a0)):=by
 generalize hR:zzg a0=r
 unfold zzg at hR
 refine di Tryz.func326 Tryz.ntmps326 Tryz.results326 ?_
 intro c hL hc hk
 clear hL
 simp only[pars,Nat.zero_add]
 iterate 2 refine rS ?_
 refine AWP.ret ?_
 subst hR
 exact es
end N326
def D_zzg : DF
 | [x0]=>some (.bool (zzg (rdI x0)),false,[wI .i64 x0])
 | _=>none
theorem ycy:OkD Tryz.prog 326 D_zzg:=by unfold D_zzg;exact dk N326.den
end Go.Ab

namespace Go.Ab
open Go Go.Proofs
def zze (a0:Character):Bool:=
 (bif ((!(zzg a0.Kind)) || (!(znd a0.Colors)))then false else(bif (a0.Kind == 1)then(((a0.Group.length:Int) == 0) && (a0.Letter == []))else(bif (a0.Kind == 3)then(((a0.Group.length:Int) == 0) && (a0.Letter == []))else(bif (a0.Kind == 6)then(bif (a0.Letter == [76])then(((a0.Group.length:Int) == 1) && ((a0.Group.getD 0 default) == 6))else(((a0.Letter == []) && decide ((a0.Group.length:Int)≤1)) && (zuc a0.Group)))else(bif (a0.Kind == 7)then(bif (a0.Letter == [76])then(((a0.Group.length:Int) == 1) && ((a0.Group.getD 0 default) == 6))else(((a0.Letter == []) && decide ((a0.Group.length:Int)≤1)) && (zuc a0.Group)))else(bif (a0.Kind == 8)then(((((a0.Group.length:Int) == 0) && ((a0.Letter.length:Int) == 1)) && decide (65≤((a0.Letter.getD 0 0).toNat:Int))) && decide (((a0.Letter.getD 0 0).toNat:Int)≤90))else((a0.Letter == []) && (zuc a0.Group))))))))
namespace N274
theorem DD:DOk Tryz.prog (Go.Ab.DD [(309,dP D_zuc),(326,dP D_zzg),(327,dP D_znd)]):=ya ym0.e <| ya ycy.e <| ya y0z.e <| yd _
theorem dn:type_of% (And.intro @D_zuc.eq_1 <| And.intro @D_zzg.eq_1 <| @D_znd.eq_1):=by and_intros<;>intros<;>rfl
theorem den (a0:Character)  : Den Tryz.prog 274 [.ep (eCharacter a0)] (.bool (zze a0)):=by
 generalize hR:zze a0=r
 unfold zze at hR
 refine di Tryz.func274 Tryz.ntmps274 Tryz.results274 ?_
 intro c hL hc hk
 obtain⟨hL0,_⟩:=hL
 have hw0:bwCharacter a0:=ym a0 hL0
 clear hL0
 simp only[pars,Nat.zero_add]
 iterate 2 refine rS ?_
 refine AWP.cond rfl (fun hb => ?_) (fun hb => ?_)
 ·replace hR:=ct hR
  refine rS ?_
  refine AWP.ret ?_
  subst hR
  exact es
 ·replace hR:=cf hR
  iterate 2 refine rS ?_
  refine AWP.cond rfl (fun hb => ?_) (fun hb => ?_)
  ·replace hR:=ct hR
   refine AWP.skip ?_
   refine AWP.cond rfl (fun hb => ?_) (fun hb => ?_)
   ·refine rS ?_
    refine AWP.ret ?_
    subst hR
    exact es
   ·exfalso;simp_all
  ·replace hR:=cf hR
   refine rS ?_
   refine AWP.cond rfl (fun hb => ?_) (fun hb => ?_)
   ·replace hR:=ct hR
    refine rS ?_
    refine AWP.ret ?_
    subst hR
    exact es
   ·replace hR:=cf hR
    refine rS ?_
    refine AWP.cond rfl (fun hb => ?_) (fun hb => ?_)
    ·replace hR:=ct hR
     refine AWP.skip ?_
     refine AWP.cond rfl (fun hb => ?_) (fun hb => ?_)
     ·refine rS ?_
      refine AWP.cond rfl (fun hb => ?_) (fun hb => ?_)
      ·replace hR:=ct hR
       refine rS ?_
       refine AWP.ret ?_
       subst hR
       exact es
      ·replace hR:=cf hR
       refine rS ?_
       refine AWP.ret ?_
       subst hR
       exact es
     ·exfalso;simp_all
    ·replace hR:=cf hR
     refine rS ?_
     refine AWP.cond rfl (fun hb => ?_) (fun hb => ?_)
     ·replace hR:=ct hR
      refine rS ?_
      refine AWP.cond rfl (fun hb => ?_) (fun hb => ?_)
      ·replace hR:=ct hR
       refine rS ?_
       refine AWP.ret ?_
       subst hR
       exact es
      ·replace hR:=cf hR
       refine rS ?_
       refine AWP.ret ?_
       subst hR
       exact es
     ·replace hR:=cf hR
      refine rS ?_
      refine AWP.cond rfl (fun hb => ?_) (fun hb => ?_)
      ·replace hR:=ct hR
       refine rS ?_
       refine AWP.ret ?_
       subst hR
       exact es
      ·replace hR:=cf hR
       refine rS ?_
       refine AWP.ret ?_
       subst hR
       exact es
end N274
def D_zze : DF
 | [x0]=>some (.bool (zze (rdP yc x0)),false,[wP eCharacter yc x0])
 | _=>none
theorem yi1:OkD Tryz.prog 274 D_zze:=by unfold D_zze;exact dk N274.den
end Go.Ab

namespace Go.Ab
open Go Go.Proofs
def yok (a0:Int) (i1:Nat) (s1:List Int):Except ((List Int)) (List Int):=
 (bif ((((([[46,45],[45,46,46,46],[45,46,45,46],[45,46,46],[46],[46,46,45,46],[45,45,46],[46,46,46,46],[46,46],[46,45,45,45],[45,46,45],[46,45,46,46],[45,45],[45,46],[45,45,45],[46,45,45,46],[45,45,46,45],[46,45,46],[46,46,46],[45],[46,46,45],[46,46,46,45],[46,45,45],[45,46,46,45],[45,46,45,45],[45,45,46,46]]:List (List UInt8)).getD ((IntKind.wrap .u8 (a0-65)).toNat) default).getD i1 0).toNat:Int) == 46)then .ok (s1++([5]:List Int))else .ok (s1++([15]:List Int)))
def zdb (a0:Int):(List Int):=
 (match yf (yok a0) (((([[46,45],[45,46,46,46],[45,46,45,46],[45,46,46],[46],[46,46,45,46],[45,45,46],[46,46,46,46],[46,46],[46,45,45,45],[45,46,45],[46,45,46,46],[45,45],[45,46],[45,45,45],[46,45,45,46],[45,45,46,45],[46,45,46],[46,46,46],[45],[46,46,45],[46,46,46,45],[46,45,45],[45,46,46,45],[45,46,45,45],[45,45,46,46]]:List (List UInt8)).getD ((IntKind.wrap .u8 (a0-65)).toNat) default).length)-0) 0 ([]:List Int)with|.error e=>e|.ok s1=>s1)
namespace N367
theorem DD:DOk Tryz.prog (Go.Ab.DD []):=yd _
theorem lx {p:Prop} (h:p:=by(exact lxx);first|done|fail):p:=h
theorem den (a0:Int) (hp0:65≤a0) (hp1:a0≤90):Den Tryz.prog 367 [.int .u8 a0] (ownL 2 1 yp (zdb a0)):=by
 generalize hR:zdb a0=r
 unfold zdb at hR
 refine di Tryz.func367 Tryz.ntmps367 Tryz.results367 ?_
 intro c hL hc hk
 clear hL
 simp only[pars,Nat.zero_add]
 have hs9:=yaz (IntKind.wrap .u8 (a0-65)).toNat
 have hw9:IntKind.wrap .u8 (a0-65)=a0-65:=y0i _ (by omega) (by omega)
 iterate 5 refine rS ?_
 refine AWP.block ?_
 generalize hz1:yf (yok a0) (((([[46,45],[45,46,46,46],[45,46,45,46],[45,46,46],[46],[46,46,45,46],[45,45,46],[46,46,46,46],[46,46],[46,45,45,45],[45,46,45],[46,45,46,46],[45,45],[45,46],[45,45,45],[46,45,45,46],[45,45,46,45],[46,45,46],[46,46,46],[45],[46,46,45],[46,46,46,45],[46,45,45],[45,46,46,45],[45,46,45,45],[45,45,46,46]]:List (List UInt8)).getD ((IntKind.wrap .u8 (a0-65)).toNat) default).length)-0) 0 ([]:List Int)=z1 at hR
 refine AWP.range (yok a0) (fun i1 s1=>⟨[(4,.str (([[46,45],[45,46,46,46],[45,46,45,46],[45,46,46],[46],[46,46,45,46],[45,45,46],[46,46,46,46],[46,46],[46,45,45,45],[45,46,45],[46,45,46,46],[45,45],[45,46],[45,45,45],[46,45,45,46],[45,45,46,45],[46,45,46],[46,46,46],[45],[46,46,45],[46,46,46,45],[46,45,45],[45,46,46,45],[45,46,45,45],[45,45,46,46]]:List (List UInt8)).getD ((IntKind.wrap .u8 (a0-65)).toNat) default)),(5,.ref 0 1 0 s1.length),(6,.int .i64 (i1:Int))],[.arr 2 1 s1.length (fun j=>yp (s1.getD j default))]⟩) (fun i1 s1=>s1.length≤([]:List Int).length+1 * i1∧s1.length≤i1) (((([[46,45],[45,46,46,46],[45,46,45,46],[45,46,46],[46],[46,46,45,46],[45,45,46],[46,46,46,46],[46,46],[46,45,45,45],[45,46,45],[46,45,46,46],[45,45],[45,46],[45,45,45],[46,45,45,46],[45,45,46,45],[46,45,46],[46,46,46],[45],[46,46,45],[46,46,46,45],[46,45,45],[45,46,46,45],[45,46,45,45],[45,45,46,46]]:List (List UInt8)).getD ((IntKind.wrap .u8 (a0-65)).toNat) default).length)) 0 ([]:List Int) [1] hz1 ot wt sm ?_
 clear hz1
 intro i1 s1 hi1 hW1 hz1
 refine rS ?_
 refine AWP.cond rfl (fun hb => ?_) (fun hb => ?_)
 ·have hlt1:i1<((([[46,45],[45,46,46,46],[45,46,45,46],[45,46,46],[46],[46,46,45,46],[45,45,46],[46,46,46,46],[46,46],[46,45,45,45],[45,46,45],[46,45,46,46],[45,45],[45,46],[45,45,45],[46,45,45,46],[45,45,46,45],[46,45,46],[46,46,46],[45],[46,46,45],[46,46,46,45],[46,45,45],[45,46,46,45],[45,46,45,45],[45,45,46,46]]:List (List UInt8)).getD ((IntKind.wrap .u8 (a0-65)).toNat) default).length):=ot
  rw[yh hlt1]at hz1;simp only[yok]at hz1
  refine rS ?_
  refine AWP.cond rfl (fun hb => ?_) (fun hb => ?_)
  ·simp only[hb,cond_true]at hz1
   iterate 2 refine rS ?_
   exact⟨_,[2],hlt1,wt,hz1,sm⟩
  ·simp only[hb,cond_false]at hz1
   iterate 2 refine rS ?_
   exact⟨_,[2],hlt1,wt,hz1,sm⟩
 ·obtain rfl:i1=((([[46,45],[45,46,46,46],[45,46,45,46],[45,46,46],[46],[46,46,45,46],[45,45,46],[46,46,46,46],[46,46],[46,45,45,45],[45,46,45],[46,45,46,46],[45,45],[45,46],[45,45,45],[46,45,45,46],[45,45,46,45],[46,45,46],[46,46,46],[45],[46,46,45],[46,46,46,45],[46,45,45],[45,46,46,45],[45,46,45,45],[45,45,46,46]]:List (List UInt8)).getD ((IntKind.wrap .u8 (a0-65)).toNat) default).length):=ot
  rw[yi (Nat.le_refl _)]at hz1;subst hz1;dsimp only at hR
  refine AWP.exit ?_;refine yb ?_
  refine rS ?_
  refine AWP.ret ?_
  subst hR
  exact es
end N367
def D_zdb : DF
 | [x0]=>some (ownL 2 1 yp (zdb (rdI x0)),false,[wI .u8 x0,65≤(rdI x0),(rdI x0)≤90])
 | _=>none
theorem yj1:OkD Tryz.prog 367 D_zdb:=by unfold D_zdb;exact dk N367.den
end Go.Ab

namespace Go.Ab
open Go Go.Proofs
theorem ysf (a:Int):zdb a=(yvc.getD (IntKind.wrap .u8 (a-65)).toNat default).map (fun c=>if c=46 then(5:Int)else 15):=by
 have h:=yqc (yok a) (fun j=>[if((yvc.getD (IntKind.wrap .u8 (a-65)).toNat default).getD j 0)=46 then(5:Int)else 15]) (yvc.getD (IntKind.wrap .u8 (a-65)).toNat default).length 0 [] (fun j s _ _=>by
  show(bif ((((yvc.getD (IntKind.wrap .u8 (a-65)).toNat default).getD j 0).toNat:Int) == 46)then(.ok (s++[5]):Except (List Int) (List Int))else .ok (s++[15]))=_
  generalize (yvc.getD (IntKind.wrap .u8 (a-65)).toNat default).getD j 0=c
  by_cases hc:c=46
  ·subst hc;rfl
  ·have:((c.toNat:Int) == 46)=false:=by
    rw[beq_eq_false_iff_ne]
    intro h
    exact hc (UInt8.toNat_inj.1 (by show c.toNat=46;omega))
   rw[this,if_neg hc];rfl)
 have e:zdb a=(match yf (yok a) (yvc.getD (IntKind.wrap .u8 (a-65)).toNat default).length 0 ([]:List Int)with|.error e=>e|.ok s1=>s1):=rfl
 rw[e,h]
 simp only[List.nil_append]
 exact y2j _ 0 (fun c=>if c=46 then(5:Int)else 15)
theorem yso (a:Int):(zdb a).length≤4:=by
 rw[ysf,List.length_map]
 exact y4j _
end Go.Ab

namespace Go.Ab
open Go Go.Proofs
def zaf (a0:Character):Bool:=
 ((a0.Kind == 1) || (((a0.Kind == 6) || (a0.Kind == 7)) && ((a0.Group.length:Int) == 0)))
namespace N275
theorem DD:DOk Tryz.prog (Go.Ab.DD []):=yd _
theorem den (a0:Character)  : Den Tryz.prog 275 [.ep (eCharacter a0)] (.bool (zaf a0)):=by
 generalize hR:zaf a0=r
 unfold zaf at hR
 refine di Tryz.func275 Tryz.ntmps275 Tryz.results275 ?_
 intro c hL hc hk
 obtain⟨hL0,_⟩:=hL
 have hw0:bwCharacter a0:=ym a0 hL0
 clear hL0
 simp only[pars,Nat.zero_add]
 iterate 2 refine rS ?_
 refine AWP.ret ?_
 subst hR
 exact es
end N275
def D_zaf : DF
 | [x0]=>some (.bool (zaf (rdP yc x0)),false,[wP eCharacter yc x0])
 | _=>none
theorem yts:OkD Tryz.prog 275 D_zaf:=by unfold D_zaf;exact dk N275.den
end Go.Ab

namespace Go.Ab
open Go Go.Proofs
def yho (a0:(List Int)) (i1:Nat) (s1:Int):Except (Int) (Int):=
 .ok (IntKind.wrap .i64 (s1+(a0.getD i1 default)))
def zod (a0:(List Int)):Int:=
 (match yf (yho a0) (a0.length-0) 0 0 with|.error e=>e|.ok s1=>s1)
namespace N328
theorem DD:DOk Tryz.prog (Go.Ab.DD []):=yd _
theorem den (a0:(List Int))  : Den Tryz.prog 328 [encL 1 yp a0] (.int .i64 (zod a0)):=by
 generalize hR:zod a0=r
 unfold zod at hR
 refine di Tryz.func328 Tryz.ntmps328 Tryz.results328 ?_
 intro c hL hc hk
 obtain⟨hL0,_⟩:=hL
 have hw0:a0.length<9223372036854775808:=Nat.lt_succ_of_le (ye hL0).1
 clear hL0
 simp only[pars,Nat.zero_add]
 iterate 3 refine rS ?_
 refine AWP.block ?_
 generalize hz1:yf (yho a0) (a0.length-0) 0 0=z1 at hR
 refine AWP.range (yho a0) (fun i1 s1=>⟨[(0,encL 1 yp a0),(3,.int .i64 s1),(4,.int .i64 (i1:Int))],[]⟩) (fun i1 s1=>True) (a0.length) 0 0 [] hz1 ot wt sm ?_
 clear hz1
 intro i1 s1 hi1 hW1 hz1
 refine rS ?_
 refine AWP.cond rfl (fun hb => ?_) (fun hb => ?_)
 ·have hlt1:i1<a0.length:=ot
  rw[yh hlt1]at hz1;simp only[yho]at hz1
  iterate 2 refine rS ?_
  exact⟨_,[],hlt1,wt,hz1,sm⟩
 ·obtain rfl:i1=a0.length:=ot
  rw[yi (Nat.le_refl _)]at hz1;subst hz1;dsimp only at hR
  refine AWP.exit ?_;refine yb ?_
  refine rS ?_
  refine AWP.ret ?_
  subst hR
  exact es
end N328
def D_zod : DF
 | [x0]=>some (.int .i64 (zod (rdL yob x0)),false,[wL 1 yp yob x0])
 | _=>none
theorem y61:OkD Tryz.prog 328 D_zod:=by unfold D_zod;exact dk N328.den
end Go.Ab

namespace Go.Ab
open Go Go.Proofs
def zub (a0:Int):Int:=
 (bif (a0 == 2)then 10 else(bif (a0 == 4)then 15 else(bif (a0 == 5)then 20 else(bif (a0 == 7)then 3 else 5))))
namespace N368
theorem DD:DOk Tryz.prog (Go.Ab.DD []):=yd _
theorem den (a0:Int)  : Den Tryz.prog 368 [.int .i64 a0] (.int .i64 (zub a0)):=by
 generalize hR:zub a0=r
 unfold zub at hR
 refine di Tryz.func368 Tryz.ntmps368 Tryz.results368 ?_
 intro c hL hc hk
 clear hL
 simp only[pars,Nat.zero_add]
 iterate 3 refine rS ?_
 refine AWP.cond rfl (fun hb => ?_) (fun hb => ?_)
 ·replace hR:=ct hR
  refine rS ?_
  refine AWP.ret ?_
  subst hR
  exact es
 ·replace hR:=cf hR
  refine rS ?_
  refine AWP.cond rfl (fun hb => ?_) (fun hb => ?_)
  ·replace hR:=ct hR
   refine rS ?_
   refine AWP.ret ?_
   subst hR
   exact es
  ·replace hR:=cf hR
   refine rS ?_
   refine AWP.cond rfl (fun hb => ?_) (fun hb => ?_)
   ·replace hR:=ct hR
    refine rS ?_
    refine AWP.ret ?_
    subst hR
    exact es
   ·replace hR:=cf hR
    refine rS ?_
    refine AWP.cond rfl (fun hb => ?_) (fun hb => ?_)
    ·replace hR:=ct hR
     refine rS ?_
     refine AWP.ret ?_
     subst hR
     exact es
    ·replace hR:=cf hR
     refine rS ?_
     refine AWP.ret ?_
     subst hR
     exact es
end N368
def D_zub : DF
 | [x0]=>some (.int .i64 (zub (rdI x0)),false,[wI .i64 x0])
 | _=>none
theorem yqs:OkD Tryz.prog 368 D_zub:=by unfold D_zub;exact dk N368.den
end Go.Ab

namespace Go.Ab
open Go Go.Proofs
def zud (a0:Int):Int:=
 (bif (a0 == 2)then 10 else(bif (a0 == 5)then 20 else(bif (a0 == 7)then 2 else 5)))
namespace N369
theorem DD:DOk Tryz.prog (Go.Ab.DD []):=yd _
theorem den (a0:Int)  : Den Tryz.prog 369 [.int .i64 a0] (.int .i64 (zud a0)):=by
 generalize hR:zud a0=r
 unfold zud at hR
 refine di Tryz.func369 Tryz.ntmps369 Tryz.results369 ?_
 intro c hL hc hk
 clear hL
 simp only[pars,Nat.zero_add]
 iterate 3 refine rS ?_
 refine AWP.cond rfl (fun hb => ?_) (fun hb => ?_)
 ·replace hR:=ct hR
  refine rS ?_
  refine AWP.ret ?_
  subst hR
  exact es
 ·replace hR:=cf hR
  refine rS ?_
  refine AWP.cond rfl (fun hb => ?_) (fun hb => ?_)
  ·replace hR:=ct hR
   refine rS ?_
   refine AWP.ret ?_
   subst hR
   exact es
  ·replace hR:=cf hR
   refine rS ?_
   refine AWP.cond rfl (fun hb => ?_) (fun hb => ?_)
   ·replace hR:=ct hR
    refine rS ?_
    refine AWP.ret ?_
    subst hR
    exact es
   ·replace hR:=cf hR
    refine rS ?_
    refine AWP.ret ?_
    subst hR
    exact es
end N369
def D_zud : DF
 | [x0]=>some (.int .i64 (zud (rdI x0)),false,[wI .i64 x0])
 | _=>none
theorem yx0:OkD Tryz.prog 369 D_zud:=by unfold D_zud;exact dk N369.den
end Go.Ab

namespace Go.Ab
open Go Go.Proofs
def zkf (a0:Character):Int:=
 (bif (a0.Kind == 6)then 20 else(bif (a0.Kind == 7)then 10 else(bif (a0.Kind == 8)then 30 else(bif decide (1<(a0.Group.length:Int))then IntKind.wrap .i64 ((IntKind.wrap .i64 ((zub a0.Kind)+5))+20)else IntKind.wrap .i64 ((zub a0.Kind)+5)))))
namespace N330
theorem DD:DOk Tryz.prog (Go.Ab.DD [(368,dP D_zub)]):=ya yqs.e <| yd _
theorem dn:type_of% (@D_zub.eq_1):=by and_intros<;>intros<;>rfl
theorem den (a0:Character)  : Den Tryz.prog 330 [.ep (eCharacter a0)] (.int .i64 (zkf a0)):=by
 generalize hR:zkf a0=r
 unfold zkf at hR
 refine di Tryz.func330 Tryz.ntmps330 Tryz.results330 ?_
 intro c hL hc hk
 obtain⟨hL0,_⟩:=hL
 have hw0:bwCharacter a0:=ym a0 hL0
 clear hL0
 simp only[pars,Nat.zero_add]
 iterate 3 refine rS ?_
 refine AWP.cond rfl (fun hb => ?_) (fun hb => ?_)
 ·replace hR:=ct hR
  refine rS ?_
  refine AWP.ret ?_
  subst hR
  exact es
 ·replace hR:=cf hR
  refine rS ?_
  refine AWP.cond rfl (fun hb => ?_) (fun hb => ?_)
  ·replace hR:=ct hR
   refine rS ?_
   refine AWP.ret ?_
   subst hR
   exact es
  ·replace hR:=cf hR
   refine rS ?_
   refine AWP.cond rfl (fun hb => ?_) (fun hb => ?_)
   ·replace hR:=ct hR
    refine rS ?_
    refine AWP.ret ?_
    subst hR
    exact es
   ·replace hR:=cf hR
    iterate 2 refine rS ?_
    refine AWP.cond rfl (fun hb => ?_) (fun hb => ?_)
    ·replace hR:=ct hR
     iterate 2 refine rS ?_
     refine AWP.ret ?_
     subst hR
     exact es
    ·replace hR:=cf hR
     refine rS ?_
     refine AWP.ret ?_
     subst hR
     exact es
end N330
def D_zkf : DF
 | [x0]=>some (.int .i64 (zkf (rdP yc x0)),false,[wP eCharacter yc x0])
 | _=>none
theorem yy0:OkD Tryz.prog 330 D_zkf:=by unfold D_zkf;exact dk N330.den
end Go.Ab

namespace Go.Ab
open Go Go.Proofs
def yln (a0:(List Sector)) (i1:Nat) (s1:List UInt8) (i2:Nat) (s2:List UInt8):Except (Sum ((List UInt8)) (List UInt8)) (List UInt8):=
 (bif (((a0.getD i2 default).Color) == ([[87],[82],[71],[89]].getD i1 default))then .error (.inr (s2++([[87],[82],[71],[89]].getD i1 default)))else .ok s2)
def yik (a0:(List Sector)) (i1:Nat) (s1:List UInt8):Except ((List UInt8)) (List UInt8):=
 (match yf (yln a0 i1 s1) (a0.length-0) 0 s1 with|.error (.inl e)=>.error e|.error (.inr s2)=>.ok s2|.ok s2=>.ok s2)
def zhc (a0:(List Sector)):(List UInt8):=
 (match yf (yik a0) (4-0) 0 []with|.error e=>e|.ok s1=>s1)
namespace N201
theorem DD:DOk Tryz.prog (Go.Ab.DD []):=yd _
theorem o0 {p:Prop} (h:p:=by(first|(have h4:=hq4 i1;have h1:=hW1;have h2:=hW2;and_intros<;>omega));first|done|fail):p:=h
theorem lx {p:Prop} (h:p:=by(exact lxx);first|done|fail):p:=h
theorem den (a0:(List Sector)) (hb0:a0.length<1099511627776) (hb1:∀ v∈a0,bdSector v):Den Tryz.prog 201 [encL 3 eSector a0] (.str (zhc a0)):=by
 generalize hR:zhc a0=r
 unfold zhc at hR
 refine di Tryz.func201 Tryz.ntmps201 Tryz.results201 ?_
 intro c hL hc hk
 obtain⟨hL0,_⟩:=hL
 have hw0:a0.length<9223372036854775808:=Nat.lt_succ_of_le (ye hL0).1
 have hw1:∀ v∈a0,bwSector v:=fun v hv=>yn v ((ye hL0).2 v hv)
 clear hL0
 simp only[pars,Nat.zero_add]
 have hq4:∀ i:Nat,(([[87],[82],[71],[89]]:List (List UInt8)).getD i default).length≤1:=fun i=>by rcases i with _|_|_|_|i<;>first|exact Nat.le_refl _|exact Nat.zero_le _
 iterate 4 refine rS ?_
 refine AWP.block ?_
 generalize hz1:yf (yik a0) (4-0) 0 []=z1 at hR
 refine AWP.range (yik a0) (fun i1 s1=>⟨[(0,encL 3 eSector a0),(3,.str s1),(4,.ref 0 1 0 4),(5,.int .i64 (i1:Int))],[.arr 9 1 [[87],[82],[71],[89]].length (fun j=>eS ([[87],[82],[71],[89]].getD j default))]⟩) (fun i1 s1=>s1.length≤i1) (4) 0 [] [0] hz1 ot (by(simp)) sm ?_
 clear hz1
 intro i1 s1 hi1 hW1 hz1
 refine rS ?_
 refine AWP.cond rfl (fun hb => ?_) (fun hb => ?_)
 ·have hlt1:i1<4:=ot
  rw[yh hlt1]at hz1;simp only[yik]at hz1
  refine rS ?_
  refine AWP.block ?_
  generalize hz2:yf (yln a0 i1 s1) (a0.length-0) 0 s1=z2 at hz1
  refine AWP.range (yln a0 i1 s1) (fun i2 s2=>⟨[(0,encL 3 eSector a0),(3,.str s2),(4,.ref 0 1 0 4),(5,.int .i64 (i1:Int)),(6,.int .i64 (i2:Int))],[.arr 9 1 [[87],[82],[71],[89]].length (fun j=>eS ([[87],[82],[71],[89]].getD j default))]⟩) (fun i2 s2=>s2.length≤i1) (a0.length) 0 s1 [0] hz2 ot (by(exact hW1)) sm ?_
  clear hz2
  intro i2 s2 hi2 hW2 hz2
  refine rS ?_
  refine AWP.cond rfl (fun hb => ?_) (fun hb => ?_)
  ·have hlt2:i2<a0.length:=ot
   rw[yh hlt2]at hz2;simp only[yln]at hz2
   refine rD 9 ?_
   refine AWP.cond rfl (fun hb => ?_) (fun hb => ?_)
   ·simp only[hb,cond_true]at hz2
    refine rS ?_
    refine AWP.exit ?_
    refine yjp rfl ?_
    refine yb ?_
    subst hz2;dsimp only at hz1
    refine rS ?_
    exact⟨_,[0],hlt1,by(have h4:=hq4 i1;simp only[ln]at *;omega),hz1,sm⟩
   ·simp only[hb,cond_false]at hz2
    refine rS ?_
    exact⟨_,[0],hlt2,by(first|exact hW2|assumption),hz2,sm⟩
  ·obtain rfl:i2=a0.length:=ot
   rw[yi (Nat.le_refl _)]at hz2;subst hz2;dsimp only at hz1
   refine AWP.exit ?_;refine yb ?_
   refine rS ?_
   exact⟨_,[0],hlt1,by(have h4:=hq4 i1;simp only[ln]at *;omega),hz1,sm⟩
 ·obtain rfl:i1=4:=ot
  rw[yi (Nat.le_refl _)]at hz1;subst hz1;dsimp only at hR
  refine AWP.exit ?_;refine yb ?_
  refine rS ?_
  refine AWP.ret ?_
  subst hR
  exact es
end N201
def D_zhc : DF
 | [x0]=>some (.str (zhc (rdL yk x0)),false,[wL 3 eSector yk x0,(rdL yk x0).length<1099511627776,∀ v∈(rdL yk x0),bdSector v])
 | _=>none
theorem yh1:OkD Tryz.prog 201 D_zhc:=by unfold D_zhc;exact dk N201.den
end Go.Ab

namespace Go.Ab
open Go Go.Proofs
def zoc (a0:Point):Bool:=
 ((ze a0.X 0 200000) && (ze a0.Y 0 200000))
namespace N196
theorem DD:DOk Tryz.prog (Go.Ab.DD [(170,dP D_ze)]):=ya yld.e <| yd _
theorem dn:type_of% (@D_ze.eq_1):=by and_intros<;>intros<;>rfl
theorem ol:type_of% (@ze.eq_1):=@ze.eq_1
theorem den (a0:Point)  : Den Tryz.prog 196 [.agg (ePoint a0)] (.bool (zoc a0)):=by
 generalize hR:zoc a0=r
 unfold zoc at hR
 refine di Tryz.func196 Tryz.ntmps196 Tryz.results196 ?_
 intro c hL hc hk
 clear hL
 simp only[pars,Nat.zero_add]
 iterate 2 refine rS ?_
 refine AWP.ret ?_
 subst hR
 exact es
end N196
def D_zoc : DF
 | [x0]=>some (.bool (zoc (rdG ysc x0)),false,[wG ePoint ysc x0])
 | _=>none
theorem y5z:OkD Tryz.prog 196 D_zoc:=by unfold D_zoc;exact dk N196.den
end Go.Ab

namespace Go.Ab
open Go Go.Proofs
def zvd (a0:Character):Bool:=
 (((((a0.Kind == 0) && ((a0.Group.length:Int) == 0)) && (a0.Letter == [])) && (a0.Colors == [])) && (a0.Period == 0))
namespace N198
theorem DD:DOk Tryz.prog (Go.Ab.DD []):=yd _
theorem den (a0:Character)  : Den Tryz.prog 198 [.ep (eCharacter a0)] (.bool (zvd a0)):=by
 generalize hR:zvd a0=r
 unfold zvd at hR
 refine di Tryz.func198 Tryz.ntmps198 Tryz.results198 ?_
 intro c hL hc hk
 obtain⟨hL0,_⟩:=hL
 have hw0:bwCharacter a0:=ym a0 hL0
 clear hL0
 simp only[pars,Nat.zero_add]
 iterate 2 refine rS ?_
 refine AWP.ret ?_
 subst hR
 exact es
end N198
def D_zvd : DF
 | [x0]=>some (.bool (zvd (rdP yc x0)),false,[wP eCharacter yc x0])
 | _=>none
theorem yby:OkD Tryz.prog 198 D_zvd:=by unfold D_zvd;exact dk N198.den
end Go.Ab

namespace Go.Ab
open Go Go.Proofs
def zwd (a0:Aid):Bool:=
 (a0.Light.Kind != 0)
namespace N202
theorem DD:DOk Tryz.prog (Go.Ab.DD []):=yd _
theorem den (a0:Aid)  : Den Tryz.prog 202 [.ep (eAid a0)] (.bool (zwd a0)):=by
 generalize hR:zwd a0=r
 unfold zwd at hR
 refine di Tryz.func202 Tryz.ntmps202 Tryz.results202 ?_
 intro c hL hc hk
 obtain⟨hL0,_⟩:=hL
 have hw0:bwAid a0:=yy a0 hL0
 clear hL0
 simp only[pars,Nat.zero_add]
 iterate 2 refine rS ?_
 refine AWP.ret ?_
 subst hR
 exact es
end N202
def D_zwd : DF
 | [x0]=>some (.bool (zwd (rdP dAid x0)),false,[wP eAid dAid x0])
 | _=>none
theorem yd1:OkD Tryz.prog 202 D_zwd:=by unfold D_zwd;exact dk N202.den
end Go.Ab

namespace Go.Ab
open Go Go.Proofs
def zpc  : (List (List UInt8)):=
 ([[110,111,110,101],[108,101,102,116],[114,105,103,104,116],[110,111,114,116,104],[101,97,115,116],[115,111,117,116,104],[119,101,115,116],[100,97,110,103,101,114],[115,97,102,101],[115,112,101,99,105,97,108]]:List (List UInt8))
namespace N333
theorem DD:DOk Tryz.prog (Go.Ab.DD []):=yd _
theorem lx {p:Prop} (h:p:=by(exact lxx);first|done|fail):p:=h
theorem den   : Den Tryz.prog 333 [] (ownL 9 1 eS (zpc)):=by
 generalize hR:zpc=r
 unfold zpc at hR
 refine di Tryz.func333 Tryz.ntmps333 Tryz.results333 ?_
 intro c hL hc hk
 clear hL
 simp only[pars,Nat.zero_add]
 iterate 2 refine rS ?_
 refine AWP.ret ?_
 subst hR
 exact es
end N333
def D_zpc : DF
 | []=>some (ownL 9 1 eS zpc,false,[])
 | _=>none
def Dz_zpc : DF
 | []=>some (ownL 9 1 eS zpc,true,[])
 | _=>none
theorem ymz:OkD Tryz.prog 333 D_zpc:=by unfold D_zpc;exact dk N333.den
theorem ygx:OkD Tryz.prog 333 Dz_zpc:=by unfold Dz_zpc;exact dk N333.den
end Go.Ab

namespace Go.Ab
open Go Go.Proofs
def zvb  : (List (List UInt8)):=
 ([[],[70],[79,99],[73,115,111],[70,108],[76,70,108],[81],[86,81],[77,111]]:List (List UInt8))
namespace N279
theorem DD:DOk Tryz.prog (Go.Ab.DD []):=yd _
theorem lx {p:Prop} (h:p:=by(exact lxx);first|done|fail):p:=h
theorem den   : Den Tryz.prog 279 [] (ownL 9 1 eS (zvb)):=by
 generalize hR:zvb=r
 unfold zvb at hR
 refine di Tryz.func279 Tryz.ntmps279 Tryz.results279 ?_
 intro c hL hc hk
 clear hL
 simp only[pars,Nat.zero_add]
 iterate 2 refine rS ?_
 refine AWP.ret ?_
 subst hR
 exact es
end N279
def D_zvb : DF
 | []=>some (ownL 9 1 eS zvb,false,[])
 | _=>none
def Dz_zvb : DF
 | []=>some (ownL 9 1 eS zvb,true,[])
 | _=>none
theorem yky:OkD Tryz.prog 279 D_zvb:=by unfold D_zvb;exact dk N279.den
theorem y4v:OkD Tryz.prog 279 Dz_zvb:=by unfold Dz_zvb;exact dk N279.den
end Go.Ab
