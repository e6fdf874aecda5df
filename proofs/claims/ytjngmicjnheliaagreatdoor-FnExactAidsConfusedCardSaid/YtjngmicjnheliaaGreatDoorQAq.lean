/- A part of a proof: walks of functions and lemmas of our own. No conditions. -/
import Derived.Test.YtjngmicjnheliaaGreatDoorQAl
import Derived.Test.YtjngmicjnheliaaGreatDoorQAp
import Derived.Test.YtjngmicjnheliaaGreatDoorQAo
import Derived.Test.YtjngmicjnheliaaGreatDoorQAi
set_option linter.unusedSectionVars false
set_option linter.unusedVariables false
set_option linter.unusedSimpArgs false
set_option maxHeartbeats 1000000
namespace Go.Ab
open Go Go.Proofs
def zld (a0:Int) (a1:Int):Int:=
 (IntKind.wrap .i64 ((a0.tmod a1)+a1)).tmod a1
namespace N118
theorem DD:DOk Tryz.prog (Go.Ab.DD []):=ye _
theorem den (a0:Int) (a1:Int) (hp0:0<a1):Den Tryz.prog 118 [.int .i64 a0,.int .i64 a1] (.int .i64 (zld a0 a1)):=by
 generalize hR:zld a0 a1=r;unfold zld at hR;refine di Tryz.func118 Tryz.ntmps118 Tryz.results118 ?_;intro c hL hc hk;clear hL;simp only[pars,Nat.zero_add];iterate 2 refine rS ?_
 refine AWP.ret ?_;subst hR;exact es
end N118
def D_zld : DF
 | [x0,x1]=>some (.int .i64 (zld (rdI x0) (rdI x1)),false,[wI .i64 x0,wI .i64 x1,0<(rdI x1)])
 | _=>none
theorem ydp:OkD Tryz.prog 118 D_zld:=by unfold D_zld;exact dk N118.den
def zoc (a0:Sector):Int:=
 IntKind.wrap .i64 ((zld (IntKind.wrap .i64 ((IntKind.wrap .i64 (a0.To-a0.From))-1)) 360)+1)
namespace N82
theorem DD:DOk Tryz.prog (Go.Ab.DD [(118,dP D_zld)]):=ya ydp.e <| ye _
theorem dn:type_of% (@D_zld.eq_1):=by and_intros<;>intros<;>rfl
theorem den (a0:Sector)  : Den Tryz.prog 82 [.agg (eSector a0)] (.int .i64 (zoc a0)):=by
 generalize hR:zoc a0=r;unfold zoc at hR;refine di Tryz.func82 Tryz.ntmps82 Tryz.results82 ?_;intro c hL hc hk;obtain⟨hL0,_⟩:=hL;have hw0:bwSector a0:=yr a0 hL0;clear hL0;simp only[pars,Nat.zero_add];iterate 2 refine rS ?_
 refine AWP.ret ?_;subst hR;exact es
end N82
def D_zoc : DF
 | [x0]=>some (.int .i64 (zoc (rdG yp x0)),false,[wG eSector yp x0])
 | _=>none
theorem yfp:OkD Tryz.prog 82 D_zoc:=by unfold D_zoc;exact dk N82.den
def zud (a0:Sector) (a1:Int):Bool:=
 decide ((zld (IntKind.wrap .i64 (a1-a0.From)) 360)<(zoc a0))
namespace N81
theorem DD:DOk Tryz.prog (Go.Ab.DD [(118,dP D_zld),(82,dP D_zoc)]):=ya ydp.e <| ya yfp.e <| ye _
theorem dn:type_of% (And.intro @D_zld.eq_1 <| @D_zoc.eq_1):=by and_intros<;>intros<;>rfl
theorem den (a0:Sector) (a1:Int)  : Den Tryz.prog 81 [.agg (eSector a0),.int .i64 a1] (.bool (zud a0 a1)):=by
 generalize hR:zud a0 a1=r;unfold zud at hR;refine di Tryz.func81 Tryz.ntmps81 Tryz.results81 ?_;intro c hL hc hk;obtain⟨hL0,hL1,_⟩:=hL;have hw0:bwSector a0:=yr a0 hL0;clear hL0 hL1;simp only[pars,Nat.zero_add];refine rS ?_;refine rD 6 ?_;refine AWP.ret ?_;subst hR;exact es
end N81
def D_zud : DF
 | [x0,x1]=>some (.bool (zud (rdG yp x0) (rdI x1)),false,[wG eSector yp x0,wI .i64 x1])
 | _=>none
theorem yzw:OkD Tryz.prog 81 D_zud:=by unfold D_zud;exact dk N81.den
def yom (a0:(List Sector)) (i1:Nat) (s1:Int) (i2:Nat) (s2:Unit):Except (Bool) (Unit):=
 (bif (((i2:Int) != (i1:Int)) && (zud (a0.getD i1 default) ((a0.getD i2 default).From)))then .error false else .ok ())
def ygj (a0:(List Sector)) (i1:Nat) (s1:Int):Except (Bool) (Int):=
 (bif ((!(zse (a0.getD i1 default))) || (decide (0<(i1:Int)) && decide (((a0.getD i1 default).From)<=((a0.getD ((IntKind.wrap .i64 ((i1:Int)-1)).toNat) default).From))))then .error false else(match yf (yom a0 i1 s1) (a0.length-0) 0 ()with|.error e=>.error e|.ok s2=>.ok (IntKind.wrap .i64 (s1+(zoc (a0.getD i1 default))))))
def zmb (a0:(List Sector)):Bool:=
 (match yf (ygj a0) (a0.length-0) 0 0 with|.error e=>e|.ok s1=>((zfc (a0.length:Int) 12) && decide (s1<=360)))
namespace N50
theorem DD:DOk Tryz.prog (Go.Ab.DD [(69,dP D_zfc),(80,dP D_zse),(81,dP D_zud),(82,dP D_zoc)]):=ya y1j.e <| ya ytv.e <| ya yzw.e <| ya yfp.e <| ye _
theorem dn:type_of% (And.intro @D_zfc.eq_1 <| And.intro @D_zse.eq_1 <| And.intro @D_zud.eq_1 <| @D_zoc.eq_1):=by and_intros<;>intros<;>rfl
theorem den (a0:(List Sector))  : Den Tryz.prog 50 [encL 3 eSector a0] (.bool (zmb a0)):=by
 generalize hR:zmb a0=r;unfold zmb at hR;refine di Tryz.func50 Tryz.ntmps50 Tryz.results50 ?_;intro c hL hc hk;obtain⟨hL0,_⟩:=hL;have hw0:a0.length<9223372036854775808:=Nat.lt_succ_of_le (yd hL0).1;have hw1:∀ v∈a0,bwSector v:=fun v hv=>yr v ((yd hL0).2 v hv)
 clear hL0;simp only[pars,Nat.zero_add];iterate 3 refine rS ?_
 refine AWP.block ?_;generalize hz1:yf (ygj a0) (a0.length-0) 0 0=z1 at hR;refine AWP.range (ygj a0) (fun i1 s1=>⟨[(0,encL 3 eSector a0),(3,.int .i64 s1),(8,encL 3 eSector a0),(9,.int .i64 (a0.length:Int)),(10,.int .i64 (i1:Int))],[]⟩) (fun i1 s1=>True) (a0.length) 0 0 [] hz1 ot wt sm ?_;clear hz1;intro i1 s1 hi1 hW1 hz1;refine rS ?_;refine AWP.seq ?_;refine AWP.cond rfl (fun hb => ?_) (fun hb => ?_)
 ·have hlt1:i1<a0.length:=ot
  rw[yg hlt1]at hz1;simp only[ygj]at hz1;refine rS ?_;refine rD 18 ?_;refine AWP.cond rfl (fun hb => ?_) (fun hb => ?_)
  ·simp only[hb,cond_true]at hz1
   refine rS ?_;refine AWP.ret ?_;subst hz1;dsimp only at hR;subst hR;exact es
  ·simp only[hb,cond_false]at hz1
   refine rS ?_;refine AWP.block ?_;generalize hz2:yf (yom a0 i1 s1) (a0.length-0) 0 ()=z2 at hz1;refine AWP.range (yom a0 i1 s1) (fun i2 s2=>⟨[(0,encL 3 eSector a0),(3,.int .i64 s1),(4,.int .i64 (i1:Int)),(5,.ptr 0 0),(8,encL 3 eSector a0),(9,.int .i64 (a0.length:Int)),(10,.int .i64 (i1:Int)),(33,encL 3 eSector a0),(34,.int .i64 (a0.length:Int)),(35,.int .i64 (i2:Int))],[.box [.int .i64 ((a0.getD i1 default).From),.int .i64 ((a0.getD i1 default).To),.str ((a0.getD i1 default).Color)]]⟩) (fun i2 s2=>True) (a0.length) 0 () [0] hz2 ot wt sm ?_;clear hz2;intro i2 s2 hi2 hW2 hz2;refine rS ?_;refine AWP.seq ?_;refine AWP.cond rfl (fun hb => ?_) (fun hb => ?_)
   ·have hlt2:i2<a0.length:=ot
    rw[yg hlt2]at hz2;simp only[yom]at hz2;iterate 2 refine rS ?_
    refine AWP.cond rfl (fun hb => ?_) (fun hb => ?_)
    ·simp only[hb,cond_true]at hz2
     refine rS ?_;refine AWP.ret ?_;subst hz2;dsimp only at hz1;subst hz1;dsimp only at hR;subst hR;exact es
    ·simp only[hb,cond_false]at hz2
     refine rS ?_;exact⟨_,[0],hlt2,wt,hz2,sm⟩
   ·obtain rfl:i2=a0.length:=ot
    rw[yh (Nat.le_refl _)]at hz2;subst hz2;dsimp only at hz1;refine AWP.exit ?_;refine yc ?_;iterate 2 refine rS ?_
    exact⟨_,[],hlt1,wt,hz1,sm⟩
 ·obtain rfl:i1=a0.length:=ot
  rw[yh (Nat.le_refl _)]at hz1;subst hz1;dsimp only at hR;refine AWP.exit ?_;refine yc ?_;refine rS ?_;refine AWP.ret ?_;subst hR;exact es
end N50
def D_zmb : DF
 | [x0]=>some (.bool (zmb (rdL yp x0)),false,[wL 3 eSector yp x0])
 | _=>none
theorem ymu:OkD Tryz.prog 50 D_zmb:=by unfold D_zmb;exact dk N50.den
def y5l (a0:(List Sector)) (i1:Nat) (s1:List UInt8) (i2:Nat) (s2:List UInt8):Except ((List UInt8)) (List UInt8):=
 (bif ((((a0.getD i2 default).Color) == (([87,82,71,89].take ((IntKind.wrap .i64 ((i1:Int)+1)).toNat)).drop i1)) && (!(zt s2 (([87,82,71,89].take ((IntKind.wrap .i64 ((i1:Int)+1)).toNat)).drop i1))))then .ok (s2++(([87,82,71,89].take ((IntKind.wrap .i64 ((i1:Int)+1)).toNat)).drop i1))else .ok s2)
def yri (a0:(List Sector)) (i1:Nat) (s1:List UInt8):Except ((List UInt8)) (List UInt8):=
 (match yf (y5l a0 i1 s1) (a0.length-0) 0 s1 with|.error e=>.error e|.ok s2=>.ok s2)
def znb (a0:(List Sector)):(List UInt8):=
 (match yf (yri a0) ([87,82,71,89].length-0) 0 []with|.error e=>e|.ok s1=>s1)
namespace N51
theorem DD:DOk Tryz.prog (Go.Ab.DD [(52,dP D_zt)]):=ya y9j.e <| ye _
theorem dn:type_of% (@D_zt.eq_1):=by and_intros<;>intros<;>rfl
theorem o0 {p:Prop} (h:p:=by(first|(have h4:=hq4 i1;have h1:=hW1;have h2:=hW2;and_intros<;>first|omega|exact yvo (by omega)));first|done|fail):p:=h
theorem den (a0:(List Sector)) (hb0:a0.length<1099511627776) (hb1:∀ v∈a0,bdSector v):Den Tryz.prog 51 [encL 3 eSector a0] (.str (znb a0)):=by
 generalize hR:znb a0=r;unfold znb at hR;refine di Tryz.func51 Tryz.ntmps51 Tryz.results51 ?_;intro c hL hc hk;obtain⟨hL0,_⟩:=hL;have hw0:a0.length<9223372036854775808:=Nat.lt_succ_of_le (yd hL0).1;have hw1:∀ v∈a0,bwSector v:=fun v hv=>yr v ((yd hL0).2 v hv)
 clear hL0;simp only[pars,Nat.zero_add];have hq4:=ybu;iterate 3 refine rS ?_
 refine AWP.block ?_;generalize hz1:yf (yri a0) ([87,82,71,89].length-0) 0 []=z1 at hR;refine AWP.range (yri a0) (fun i1 s1=>⟨[(0,encL 3 eSector a0),(3,.str s1),(8,.ptr 0 0)],[.it [87,82,71,89] i1 (decide (i1<[87,82,71,89].length))]⟩) (fun i1 s1=>s1.length<=1099511627776 * i1) ([87,82,71,89].length) 0 [] [0] hz1 ot (by(simp)) sm ?_;clear hz1;intro i1 s1 hi1 hW1 hz1;refine AWP.seq ?_;by_cases hlt1:i1<[87,82,71,89].length
 ·rw[yg hlt1]at hz1;simp only[yri]at hz1
  rw[decide_eq_true hlt1];refine rS ?_;refine AWP.seq ?_;refine AWP.cond rfl (fun hb => ?_) (fun hb=>nomatch hb);iterate 2 refine rS ?_
  refine AWP.block ?_;generalize hz2:yf (y5l a0 i1 s1) (a0.length-0) 0 s1=z2 at hz1;refine AWP.range (y5l a0 i1 s1) (fun i2 s2=>⟨[(0,encL 3 eSector a0),(3,.str s2),(4,.int .i64 (i1:Int)),(8,.ptr 0 0),(12,encL 3 eSector a0),(13,.int .i64 (a0.length:Int)),(14,.int .i64 (i2:Int))],[.it [87,82,71,89] (i1+1) (decide (i1+1<[87,82,71,89].length))]⟩) (fun i2 s2=>s2.length<=1099511627776 * i1+i2) (a0.length) 0 s1 [0] hz2 ot (by(exact hW1)) sm ?_;clear hz2;intro i2 s2 hi2 hW2 hz2;refine rS ?_;refine AWP.seq ?_;refine AWP.cond rfl (fun hb => ?_) (fun hb => ?_)
  ·have hlt2:i2<a0.length:=ot
   rw[yg hlt2]at hz2;simp only[y5l]at hz2;iterate 3 refine rS ?_
   refine AWP.cond rfl (fun hb => ?_) (fun hb => ?_)
   ·simp only[hb,cond_true]at hz2
    iterate 2 refine rS ?_
    exact⟨_,[0],hlt2,by(have h4:=hq4 i1;have h2:=hW2;simp only[ln]at *;omega),hz2,sm⟩
   ·simp only[hb,cond_false]at hz2
    refine rS ?_;exact⟨_,[0],hlt2,by(have h4:=hq4 i1;have h2:=hW2;simp only[ln]at *;omega),hz2,sm⟩
  ·obtain rfl:i2=a0.length:=ot
   rw[yh (Nat.le_refl _)]at hz2;subst hz2;dsimp only at hz1;refine AWP.exit ?_;refine yc ?_;exact⟨_,[0],hlt1,by(have h1:=hW1;omega),hz1,sm⟩
 ·obtain rfl:i1=[87,82,71,89].length:=by omega
  rw[yh (Nat.le_refl _)]at hz1;subst hz1;dsimp only at hR;simp only[Nat.lt_irrefl,decide_false];refine rS ?_;refine AWP.seq ?_;refine AWP.cond rfl (fun hb=>nomatch hb) (fun hb => ?_);refine AWP.exit ?_;refine yc ?_;refine rS ?_;refine AWP.ret ?_;subst hR;exact es
end N51
def D_znb : DF
 | [x0]=>some (.str (znb (rdL yp x0)),false,[wL 3 eSector yp x0,(rdL yp x0).length<1099511627776,∀ v∈(rdL yp x0),bdSector v])
 | _=>none
theorem yxt:OkD Tryz.prog 51 D_znb:=by unfold D_znb;exact dk N51.den
def zie (a0:Int):Bool:=
 (zd a0 1 9)
namespace N70
theorem DD:DOk Tryz.prog (Go.Ab.DD [(47,dP D_zd)]):=ya yfc.e <| ye _
theorem dn:type_of% (@D_zd.eq_1):=by and_intros<;>intros<;>rfl
theorem ol:type_of% (@zd.eq_1):=@zd.eq_1
theorem den (a0:Int)  : Den Tryz.prog 70 [.int .i64 a0] (.bool (zie a0)):=by
 generalize hR:zie a0=r;unfold zie at hR;refine di Tryz.func70 Tryz.ntmps70 Tryz.results70 ?_;intro c hL hc hk;clear hL;simp only[pars,Nat.zero_add];iterate 2 refine rS ?_
 refine AWP.ret ?_;subst hR;exact es
end N70
def D_zie : DF
 | [x0]=>some (.bool (zie (rdI x0)),false,[wI .i64 x0])
 | _=>none
theorem yqo:OkD Tryz.prog 70 D_zie:=by unfold D_zie;exact dk N70.den
def zje (a0:Int) (a1:Int):Bool:=
 (decide (0<=a0) && decide (a0<a1))
namespace N132
theorem DD:DOk Tryz.prog (Go.Ab.DD []):=ye _
theorem den (a0:Int) (a1:Int)  : Den Tryz.prog 132 [.int .i64 a0,.int .i64 a1] (.bool (zje a0 a1)):=by
 generalize hR:zje a0 a1=r;unfold zje at hR;refine di Tryz.func132 Tryz.ntmps132 Tryz.results132 ?_;intro c hL hc hk;clear hL;simp only[pars,Nat.zero_add];iterate 2 refine rS ?_
 refine AWP.ret ?_;subst hR;exact es
end N132
def D_zje : DF
 | [x0,x1]=>some (.bool (zje (rdI x0) (rdI x1)),false,[wI .i64 x0,wI .i64 x1])
 | _=>none
theorem y4v:OkD Tryz.prog 132 D_zje:=by unfold D_zje;exact dk N132.den
def zpc (a0:Int) (a1:(List (List UInt8))):(List UInt8):=
 (bif (!(zje a0 (a1.length:Int)))then[]else(a1.getD ((a0).toNat) default))
namespace N107
theorem DD:DOk Tryz.prog (Go.Ab.DD [(132,dP D_zje)]):=ya y4v.e <| ye _
theorem dn:type_of% (@D_zje.eq_1):=by and_intros<;>intros<;>rfl
theorem ol:type_of% (@zje.eq_1):=@zje.eq_1
theorem den (a0:Int) (a1:(List (List UInt8)))  : Den Tryz.prog 107 [.int .i64 a0,encL 1 eS a1] (.str (zpc a0 a1)):=by
 generalize hR:zpc a0 a1=r;unfold zpc at hR;refine di Tryz.func107 Tryz.ntmps107 Tryz.results107 ?_;intro c hL hc hk;obtain⟨hL0,hL1,_⟩:=hL;have hw0:a1.length<9223372036854775808:=Nat.lt_succ_of_le (yd hL1).1;have hw1:∀ v∈a1,bwS v:=fun v hv=>ydf v ((yd hL1).2 v hv)
 clear hL0 hL1;simp only[pars,Nat.zero_add];iterate 2 refine rS ?_
 refine AWP.cond rfl (fun hb => ?_) (fun hb => ?_)
 ·replace hR:=ct hR
  refine rS ?_;refine AWP.ret ?_;subst hR;exact es
 ·replace hR:=cf hR
  refine rS ?_;refine AWP.ret ?_;subst hR;exact es
end N107
def D_zpc : DF
 | [x0,x1]=>some (.str (zpc (rdI x0) (rdL dS x1)),false,[wI .i64 x0,wL 1 eS dS x1])
 | _=>none
theorem yyj:OkD Tryz.prog 107 D_zpc:=by unfold D_zpc;exact dk N107.den
def zke (a0:Int):(List UInt8):=
 (zpc a0 ([[],[82],[71],[66,89],[66,89,66],[89,66],[89,66,89],[66,82,66],[82,87],[89]]:List (List UInt8)))
namespace N71
theorem DD:DOk Tryz.prog (Go.Ab.DD [(107,dP D_zpc)]):=ya yyj.e <| ye _
theorem dn:type_of% (@D_zpc.eq_1):=by and_intros<;>intros<;>rfl
theorem lx {p:Prop} (h:p:=by(exact lxx);first|done|fail):p:=h
theorem den (a0:Int)  : Den Tryz.prog 71 [.int .i64 a0] (.str (zke a0)):=by
 generalize hR:zke a0=r;unfold zke at hR;refine di Tryz.func71 Tryz.ntmps71 Tryz.results71 ?_;intro c hL hc hk;clear hL;simp only[pars,Nat.zero_add];iterate 2 refine rS ?_
 refine AWP.ret ?_;subst hR;exact es
end N71
def D_zke : DF
 | [x0]=>some (.str (zke (rdI x0)),false,[wI .i64 x0])
 | _=>none
theorem ywo:OkD Tryz.prog 71 D_zke:=by unfold D_zke;exact dk N71.den
theorem yyo {P:List UInt8->Prop} (n:Int) (l:List (List UInt8)) (h0:P []) (h:∀ y∈l,P y):P (zpc n l):=by
 unfold zpc
 cases hb:zje n (l.length:Int)with
 | false=>exact h0
 | true=>
  simp only[Bool.not_true,cond_false];rw[List.getD_eq_getElem?_getD];by_cases hi:n.toNat<l.length
  ·rw[List.getElem?_eq_getElem hi];exact h _ (List.getElem_mem hi)
  ·rw[List.getElem?_eq_none (by omega)];exact h0
def zuc (a0:Int):(List (List UInt8)):=
 (zhf (zpc a0 ([[],[99,97,110,32,112,105,108,108,97,114,32,115,112,97,114],[99,111,110,101,32,112,105,108,108,97,114,32,115,112,97,114],[112,105,108,108,97,114,32,115,112,97,114],[112,105,108,108,97,114,32,115,112,97,114],[112,105,108,108,97,114,32,115,112,97,114],[112,105,108,108,97,114,32,115,112,97,114],[112,105,108,108,97,114,32,115,112,97,114],[115,112,104,101,114,101,32,112,105,108,108,97,114,32,115,112,97,114],[99,97,110,32,99,111,110,101,32,112,105,108,108,97,114,32,115,112,97,114,32,115,112,104,101,114,101]]:List (List UInt8))))
namespace N73
theorem DD:DOk Tryz.prog (Go.Ab.DD [(107,dP D_zpc),(109,dP D_zhf)]):=ya yyj.e <| ya y6u.e <| ye _
theorem dn:type_of% (And.intro @D_zpc.eq_1 <| @D_zhf.eq_1):=by and_intros<;>intros<;>rfl
theorem o0 {p:Prop} (h:p:=by(first|(and_intros<;>first|exact yyo (P:=fun y=>y.length<=1048576) _ _ (by simp) (by simp)|exact yyo (P:=fun y=>∀ x∈y,x.toNat<128) _ _ (by simp) (by simp)));first|done|fail):p:=h
theorem lx {p:Prop} (h:p:=by(exact lxx);first|done|fail):p:=h
theorem den (a0:Int)  : Den Tryz.prog 73 [.int .i64 a0] (ownL 9 1 eS (zuc a0)):=by
 generalize hR:zuc a0=r;unfold zuc at hR;refine di Tryz.func73 Tryz.ntmps73 Tryz.results73 ?_;intro c hL hc hk;clear hL;simp only[pars,Nat.zero_add];iterate 2 refine rS ?_
 refine AWP.ret ?_;subst hR;exact es
end N73
def D_zuc : DF
 | [x0]=>some (ownL 9 1 eS (zuc (rdI x0)),false,[wI .i64 x0])
 | _=>none
def Dz_zuc : DF
 | [x0]=>some (ownL 9 1 eS (zuc (rdI x0)),true,[wI .i64 x0])
 | _=>none
theorem yot:OkD Tryz.prog 73 D_zuc:=by unfold D_zuc;exact dk N73.den
theorem ymr:OkD Tryz.prog 73 Dz_zuc:=by unfold Dz_zuc;exact dk N73.den
def zle (a0:Int):(List UInt8):=
 (zpc a0 ([[],[99,97,110],[99,111,110,101],[117,112],[98,97,115,101],[100,111,119,110],[112,111,105,110,116],[98,97,108,108,115],[98,97,108,108],[99,114,111,115,115]]:List (List UInt8)))
namespace N74
theorem DD:DOk Tryz.prog (Go.Ab.DD [(107,dP D_zpc)]):=ya yyj.e <| ye _
theorem dn:type_of% (@D_zpc.eq_1):=by and_intros<;>intros<;>rfl
theorem lx {p:Prop} (h:p:=by(exact lxx);first|done|fail):p:=h
theorem den (a0:Int)  : Den Tryz.prog 74 [.int .i64 a0] (.str (zle a0)):=by
 generalize hR:zle a0=r;unfold zle at hR;refine di Tryz.func74 Tryz.ntmps74 Tryz.results74 ?_;intro c hL hc hk;clear hL;simp only[pars,Nat.zero_add];iterate 2 refine rS ?_
 refine AWP.ret ?_;subst hR;exact es
end N74
def D_zle : DF
 | [x0]=>some (.str (zle (rdI x0)),false,[wI .i64 x0])
 | _=>none
theorem y2n:OkD Tryz.prog 74 D_zle:=by unfold D_zle;exact dk N74.den
def zme (a0:Mark):Bool:=
 (bif (a0.Kind == 0 && (a0.Colors == [] && (a0.Shape == [] && a0.Topmark == [])))then true else((((zie a0.Kind) && (a0.Colors == (zke a0.Kind))) && (ztd (zuc a0.Kind) a0.Shape)) && ((a0.Topmark == []) || (a0.Topmark == (zle a0.Kind)))))
namespace N45
theorem DD:DOk Tryz.prog (Go.Ab.DD [(70,dP D_zie),(71,dP D_zke),(72,dP D_ztd),(73,dP D_zuc),(74,dP D_zle)]):=ya yqo.e <| ya ywo.e <| ya ysp.e <| ya yot.e <| ya y2n.e <| ye _
theorem DZ:DOk Tryz.prog (Go.Ab.DD [(70,dP D_zie),(71,dP D_zke),(72,dP D_ztd),(73,dP Dz_zuc),(74,dP D_zle)]):=ya yqo.e <| ya ywo.e <| ya ysp.e <| ya ymr.e <| ya y2n.e <| ye _
theorem dn:type_of% (And.intro @D_zie.eq_1 <| And.intro @D_zke.eq_1 <| And.intro @D_ztd.eq_1 <| And.intro @D_zuc.eq_1 <| And.intro @D_zle.eq_1 <| @Dz_zuc.eq_1):=by and_intros<;>intros<;>rfl
theorem den (a0:Mark) (hb0:bdMark a0):Den Tryz.prog 45 [.agg (eMark a0)] (.bool (zme a0)):=by
 generalize hR:zme a0=r;unfold zme at hR;refine di Tryz.func45 Tryz.ntmps45 Tryz.results45 ?_;intro c hL hc hk;obtain⟨hL0,_⟩:=hL;have hw0:bwMark a0:=yec a0 hL0;clear hL0;simp only[pars,Nat.zero_add];iterate 2 refine rS ?_
 refine AWP.cond rfl (fun hb => ?_) (fun hb => ?_)
 ·replace hR:=ct hR
  refine rS ?_;refine AWP.ret ?_;subst hR;exact es
 ·replace hR:=cf hR
  refine rZ 32 ?_;refine AWP.ret ?_;subst hR;exact es
end N45
def D_zme : DF
 | [x0]=>some (.bool (zme (rdG yzd x0)),false,[wG eMark yzd x0,bdMark (rdG yzd x0)])
 | _=>none
theorem ysu:OkD Tryz.prog 45 D_zme:=by unfold D_zme;exact dk N45.den
def zbf (a0:Int):Bool:=
 (decide (48<=a0) && decide (a0<=57))
namespace N68
theorem DD:DOk Tryz.prog (Go.Ab.DD []):=ye _
theorem den (a0:Int)  : Den Tryz.prog 68 [.int .u8 a0] (.bool (zbf a0)):=by
 generalize hR:zbf a0=r;unfold zbf at hR;refine di Tryz.func68 Tryz.ntmps68 Tryz.results68 ?_;intro c hL hc hk;clear hL;simp only[pars,Nat.zero_add];iterate 2 refine rS ?_
 refine AWP.ret ?_;subst hR;exact es
end N68
def D_zbf : DF
 | [x0]=>some (.bool (zbf (rdI x0)),false,[wI .u8 x0])
 | _=>none
theorem ynu:OkD Tryz.prog 68 D_zbf:=by unfold D_zbf;exact dk N68.den
def yuo (a0:(List UInt8)) (i1:Nat) (s1:Unit):Except (Bool) (Unit):=
 (bif ((!(decide (97<=((a0.getD i1 0).toNat:Int)) && decide (((a0.getD i1 0).toNat:Int)<=122))) && (((i1:Int) == 0) || (!(zbf ((a0.getD i1 0).toNat:Int)))))then .error false else .ok ())
def zbd (a0:(List UInt8)):Bool:=
 (match yf (yuo a0) (a0.length-0) 0 ()with|.error e=>e|.ok s1=>((a0 != []) && (zfc (a0.length:Int) 10)))
namespace N42
theorem DD:DOk Tryz.prog (Go.Ab.DD [(68,dP D_zbf),(69,dP D_zfc)]):=ya ynu.e <| ya y1j.e <| ye _
theorem dn:type_of% (And.intro @D_zbf.eq_1 <| @D_zfc.eq_1):=by and_intros<;>intros<;>rfl
theorem den (a0:(List UInt8))  : Den Tryz.prog 42 [.str a0] (.bool (zbd a0)):=by
 generalize hR:zbd a0=r;unfold zbd at hR;refine di Tryz.func42 Tryz.ntmps42 Tryz.results42 ?_;intro c hL hc hk;obtain⟨hL0,_⟩:=hL;have hw0:a0.length<9223372036854775808:=Nat.lt_succ_of_le hL0;clear hL0;simp only[pars,Nat.zero_add];iterate 2 refine rS ?_
 refine AWP.block ?_;generalize hz1:yf (yuo a0) (a0.length-0) 0 ()=z1 at hR;refine AWP.range (yuo a0) (fun i1 s1=>⟨[(0,.str a0),(3,.int .i64 (i1:Int))],[]⟩) (fun i1 s1=>True) (a0.length) 0 () [] hz1 ot wt sm ?_;clear hz1;intro i1 s1 hi1 hW1 hz1;refine rS ?_;refine AWP.cond rfl (fun hb => ?_) (fun hb => ?_)
 ·have hlt1:i1<a0.length:=ot
  rw[yg hlt1]at hz1;simp only[yuo]at hz1;iterate 2 refine rS ?_
  refine AWP.cond rfl (fun hb => ?_) (fun hb => ?_)
  ·simp only[hb,cond_true]at hz1
   refine rS ?_;refine AWP.ret ?_;subst hz1;dsimp only at hR;subst hR;exact es
  ·simp only[hb,cond_false]at hz1
   refine rS ?_;exact⟨_,[],hlt1,wt,hz1,sm⟩
 ·obtain rfl:i1=a0.length:=ot
  rw[yh (Nat.le_refl _)]at hz1;subst hz1;dsimp only at hR;refine AWP.exit ?_;refine yc ?_;refine rS ?_;refine AWP.ret ?_;subst hR;exact es
end N42
def D_zbd : DF
 | [x0]=>some (.bool (zbd (rdS x0)),false,[wS x0])
 | _=>none
theorem ygu:OkD Tryz.prog 42 D_zbd:=by unfold D_zbd;exact dk N42.den
def yej (a0:(List Int)) (a1:(List Int)) (i1:Nat) (s1:Unit):Except (Bool) (Unit):=
 (bif ((a0.getD i1 default) != (a1.getD i1 default))then .error false else .ok ())
def zvc (a0:(List Int)) (a1:(List Int)):Bool:=
 (bif ((a0.length:Int) != (a1.length:Int))then false else(match yf (yej a0 a1) (a0.length-0) 0 ()with|.error e=>e|.ok s1=>true))
namespace N110
theorem DD:DOk Tryz.prog (Go.Ab.DD []):=ye _
theorem den (a0:(List Int)) (a1:(List Int))  : Den Tryz.prog 110 [encL 1 yq a0,encL 1 yq a1] (.bool (zvc a0 a1)):=by
 generalize hR:zvc a0 a1=r;unfold zvc at hR;refine di Tryz.func110 Tryz.ntmps110 Tryz.results110 ?_;intro c hL hc hk;obtain⟨hL0,hL1,_⟩:=hL;have hw0:a0.length<9223372036854775808:=Nat.lt_succ_of_le (yd hL0).1;have hw1:a1.length<9223372036854775808:=Nat.lt_succ_of_le (yd hL1).1;clear hL0 hL1;simp only[pars,Nat.zero_add];iterate 2 refine rS ?_
 refine AWP.cond rfl (fun hb => ?_) (fun hb => ?_)
 ·replace hR:=ct hR
  refine rS ?_;refine AWP.ret ?_;subst hR;exact es
 ·replace hR:=cf hR
  refine rS ?_;refine AWP.block ?_;generalize hz1:yf (yej a0 a1) (a0.length-0) 0 ()=z1 at hR;refine AWP.range (yej a0 a1) (fun i1 s1=>⟨[(0,encL 1 yq a0),(1,encL 1 yq a1),(12,.int .i64 (a0.length:Int)),(13,.int .i64 (i1:Int))],[]⟩) (fun i1 s1=>True) (a0.length) 0 () [] hz1 ot wt sm ?_;clear hz1;intro i1 s1 hi1 hW1 hz1;refine rS ?_;refine AWP.seq ?_;refine AWP.cond rfl (fun hb => ?_) (fun hb => ?_)
  ·have hlt1:i1<a0.length:=ot
   rw[yg hlt1]at hz1;simp only[yej]at hz1;refine rS ?_;refine rD 8 ?_;refine AWP.cond rfl (fun hb => ?_) (fun hb => ?_)
   ·simp only[hb,cond_true]at hz1
    refine rS ?_;refine AWP.ret ?_;subst hz1;dsimp only at hR;subst hR;exact es
   ·simp only[hb,cond_false]at hz1
    refine rS ?_;exact⟨_,[],hlt1,wt,hz1,sm⟩
  ·obtain rfl:i1=a0.length:=ot
   rw[yh (Nat.le_refl _)]at hz1;subst hz1;dsimp only at hR;refine AWP.exit ?_;refine yc ?_;refine rS ?_;refine AWP.ret ?_;subst hR;exact es
end N110
def D_zvc : DF
 | [x0,x1]=>some (.bool (zvc (rdL ynb x0) (rdL ynb x1)),false,[wL 1 yq ynb x0,wL 1 yq ynb x1])
 | _=>none
theorem ybv:OkD Tryz.prog 110 D_zvc:=by unfold D_zvc;exact dk N110.den
theorem yii (a b:List Int):zvc a b=decide (a=b):=by
 unfold zvc;by_cases hl:a.length=b.length
 ·have h1:((a.length:Int) != (b.length:Int))=false:=by simp[hl]
  rw[h1,cond_false,yic (b:=yej a b) (fun j => !decide (a.getD j default=b.getD j default)) false (fun j u _ _=>by simp only[yej,ned])];simp only[Nat.sub_zero,Nat.zero_add];rw[y2o a b hl];by_cases h:a=b<;>simp[h]
 ·have h1:((a.length:Int) != (b.length:Int))=true:=by simp;omega
  have h2:¬ a=b:=fun e=>hl (by rw[e])
  rw[h1,cond_true,decide_eq_false h2]
def zte (a0:Int):Bool:=
 (zd a0 1 100000000)
namespace N49
theorem DD:DOk Tryz.prog (Go.Ab.DD [(47,dP D_zd)]):=ya yfc.e <| ye _
theorem dn:type_of% (@D_zd.eq_1):=by and_intros<;>intros<;>rfl
theorem ol:type_of% (@zd.eq_1):=@zd.eq_1
theorem den (a0:Int)  : Den Tryz.prog 49 [.int .i64 a0] (.bool (zte a0)):=by
 generalize hR:zte a0=r;unfold zte at hR;refine di Tryz.func49 Tryz.ntmps49 Tryz.results49 ?_;intro c hL hc hk;clear hL;simp only[pars,Nat.zero_add];iterate 2 refine rS ?_
 refine AWP.ret ?_;subst hR;exact es
end N49
def D_zte : DF
 | [x0]=>some (.bool (zte (rdI x0)),false,[wI .i64 x0])
 | _=>none
theorem yrw:OkD Tryz.prog 49 D_zte:=by unfold D_zte;exact dk N49.den
def zcf (a0:Character) (a1:Character):Bool:=
 (((((a0.Kind == a1.Kind) && (zvc a0.Group a1.Group)) && (a0.Letter == a1.Letter)) && (a0.Colors == a1.Colors)) && (a0.Period == a1.Period))
namespace N75
theorem DD:DOk Tryz.prog (Go.Ab.DD [(110,dP D_zvc)]):=ya ybv.e <| ye _
theorem dn:type_of% (@D_zvc.eq_1):=by and_intros<;>intros<;>rfl
theorem den (a0:Character) (a1:Character)  : Den Tryz.prog 75 [.agg (eCharacter a0),.agg (eCharacter a1)] (.bool (zcf a0 a1)):=by
 generalize hR:zcf a0 a1=r;unfold zcf at hR;refine di Tryz.func75 Tryz.ntmps75 Tryz.results75 ?_;intro c hL hc hk;obtain⟨hL0,hL1,_⟩:=hL;have hw0:bwCharacter a0:=yj a0 hL0;have hw1:bwCharacter a1:=yj a1 hL1;clear hL0 hL1;simp only[pars,Nat.zero_add];iterate 2 refine rS ?_
 refine AWP.ret ?_;subst hR;exact es
end N75
def D_zcf : DF
 | [x0,x1]=>some (.bool (zcf (rdG yb x0) (rdG yb x1)),false,[wG eCharacter yb x0,wG eCharacter yb x1])
 | _=>none
theorem yhu:OkD Tryz.prog 75 D_zcf:=by unfold D_zcf;exact dk N75.den
def zue (a0:Aid):Bool:=
 (((zcf a0.Light ({ Kind:=0,Group:=[],Letter:=[],Colors:=[],Period:=0:Character })) && ((a0.Sectors.length:Int) == 0)) && (a0.Intensity == 0))
namespace N46
theorem DD:DOk Tryz.prog (Go.Ab.DD [(75,dP D_zcf)]):=ya yhu.e <| ye _
theorem dn:type_of% (@D_zcf.eq_1):=by and_intros<;>intros<;>rfl
theorem den (a0:Aid)  : Den Tryz.prog 46 [.agg (eAid a0)] (.bool (zue a0)):=by
 generalize hR:zue a0=r;unfold zue at hR;refine di Tryz.func46 Tryz.ntmps46 Tryz.results46 ?_;intro c hL hc hk;obtain⟨hL0,_⟩:=hL;have hw0:bwAid a0:=ydb a0 hL0;clear hL0;simp only[pars,Nat.zero_add];iterate 2 refine rS ?_
 refine AWP.ret ?_;subst hR;exact es
end N46
def D_zue : DF
 | [x0]=>some (.bool (zue (rdG dAid x0)),false,[wG eAid dAid x0])
 | _=>none
theorem y2t:OkD Tryz.prog 46 D_zue:=by unfold D_zue;exact dk N46.den
def zdf (a0:Int):Bool:=
 (zd a0 1 9999)
namespace N41
theorem DD:DOk Tryz.prog (Go.Ab.DD [(47,dP D_zd)]):=ya yfc.e <| ye _
theorem dn:type_of% (@D_zd.eq_1):=by and_intros<;>intros<;>rfl
theorem ol:type_of% (@zd.eq_1):=@zd.eq_1
theorem den (a0:Int)  : Den Tryz.prog 41 [.int .i64 a0] (.bool (zdf a0)):=by
 generalize hR:zdf a0=r;unfold zdf at hR;refine di Tryz.func41 Tryz.ntmps41 Tryz.results41 ?_;intro c hL hc hk;clear hL;simp only[pars,Nat.zero_add];iterate 2 refine rS ?_
 refine AWP.ret ?_;subst hR;exact es
end N41
def D_zdf : DF
 | [x0]=>some (.bool (zdf (rdI x0)),false,[wI .i64 x0])
 | _=>none
theorem ylw:OkD Tryz.prog 41 D_zdf:=by unfold D_zdf;exact dk N41.den
def zef (a0:Point):Bool:=
 ((zd a0.X 0 200000) && (zd a0.Y 0 200000))
namespace N43
theorem DD:DOk Tryz.prog (Go.Ab.DD [(47,dP D_zd)]):=ya yfc.e <| ye _
theorem dn:type_of% (@D_zd.eq_1):=by and_intros<;>intros<;>rfl
theorem ol:type_of% (@zd.eq_1):=@zd.eq_1
theorem den (a0:Point)  : Den Tryz.prog 43 [.agg (ePoint a0)] (.bool (zef a0)):=by
 generalize hR:zef a0=r;unfold zef at hR;refine di Tryz.func43 Tryz.ntmps43 Tryz.results43 ?_;intro c hL hc hk;clear hL;simp only[pars,Nat.zero_add];iterate 2 refine rS ?_
 refine AWP.ret ?_;subst hR;exact es
end N43
def D_zef : DF
 | [x0]=>some (.bool (zef (rdG yjd x0)),false,[wG ePoint yjd x0])
 | _=>none
theorem yvv:OkD Tryz.prog 43 D_zef:=by unfold D_zef;exact dk N43.den
def zff (a0:Int):Bool:=
 (zd a0 0 3000)
namespace N44
theorem DD:DOk Tryz.prog (Go.Ab.DD [(47,dP D_zd)]):=ya yfc.e <| ye _
theorem dn:type_of% (@D_zd.eq_1):=by and_intros<;>intros<;>rfl
theorem ol:type_of% (@zd.eq_1):=@zd.eq_1
theorem den (a0:Int)  : Den Tryz.prog 44 [.int .i64 a0] (.bool (zff a0)):=by
 generalize hR:zff a0=r;unfold zff at hR;refine di Tryz.func44 Tryz.ntmps44 Tryz.results44 ?_;intro c hL hc hk;clear hL;simp only[pars,Nat.zero_add];iterate 2 refine rS ?_
 refine AWP.ret ?_;subst hR;exact es
end N44
def D_zff : DF
 | [x0]=>some (.bool (zff (rdI x0)),false,[wI .i64 x0])
 | _=>none
theorem ykv:OkD Tryz.prog 44 D_zff:=by unfold D_zff;exact dk N44.den
def zve (a0:Int):Bool:=
 (zd a0 0 20)
namespace N20
theorem DD:DOk Tryz.prog (Go.Ab.DD [(47,dP D_zd)]):=ya yfc.e <| ye _
theorem dn:type_of% (@D_zd.eq_1):=by and_intros<;>intros<;>rfl
theorem ol:type_of% (@zd.eq_1):=@zd.eq_1
theorem den (a0:Int)  : Den Tryz.prog 20 [.int .i64 a0] (.bool (zve a0)):=by
 generalize hR:zve a0=r;unfold zve at hR;refine di Tryz.func20 Tryz.ntmps20 Tryz.results20 ?_;intro c hL hc hk;clear hL;simp only[pars,Nat.zero_add];iterate 2 refine rS ?_
 refine AWP.ret ?_;subst hR;exact es
end N20
def D_zve : DF
 | [x0]=>some (.bool (zve (rdI x0)),false,[wI .i64 x0])
 | _=>none
theorem yru:OkD Tryz.prog 20 D_zve:=by unfold D_zve;exact dk N20.den
end Go.Ab
