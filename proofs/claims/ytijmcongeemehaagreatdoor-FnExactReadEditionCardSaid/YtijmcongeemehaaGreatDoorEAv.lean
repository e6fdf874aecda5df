/- A part of a proof: walks of functions and lemmas of our own. No conditions. -/
import Derived.Test.YtijmcongeemehaaGreatDoorEAl
import Derived.Test.YtijmcongeemehaaGreatDoorEAu
import Derived.Test.YtijmcongeemehaaGreatDoorEAp
set_option linter.unusedSectionVars false
set_option linter.unusedVariables false
set_option linter.unusedSimpArgs false
set_option maxHeartbeats 1000000
namespace Go.Ab
open Go Go.Proofs
def ypw (a0:(List Sector)) (i1:Nat) (s1:Unit):Except (Bool) (Unit):=
 (bif ((!(zyc (a0.getD i1 default))) || (decide (0<(i1:Int)) && decide (((a0.getD i1 default).From)<=((a0.getD ((IntKind.wrap .i64 ((i1:Int)-1)).toNat) default).From))))then .error false else .ok ())
def yet (a0:(List Sector)) (s1:Unit) (s2:Int):Except (Sum (Bool) (Int)) (Int):=
 (bif (decide (s2<(a0.length:Int)) && decide (1<(a0.length:Int)))then(bif decide (((IntKind.wrap .i64 ((IntKind.wrap .i64 (((a0.getD (((IntKind.wrap .i64 (s2+1)).tmod (a0.length:Int)).toNat) default).From)-((a0.getD ((s2).toNat) default).From)))+360)).tmod 360)<(zgg (a0.getD ((s2).toNat) default)))then .error (.inl false)else .ok (IntKind.wrap .i64 (s2+1)))else .error (.inr s2))
def zu (a0:(List Sector)):Bool:=
 (bif decide (12<(a0.length:Int))then false else(match yd (ypw a0) (a0.length-0) 0 ()with|.error e=>e|.ok s1=>(match y5 (yet a0 s1) ((a0.length-((0:Int)).toNat)+1) 0 with|.error (.inl e)=>e|.error (.inr s2)=>true|.ok _=>default)))
namespace N123
theorem DD:DOk Tryz.prog (Go.Ab.DD [(204,dP D_zyc),(205,dP D_zgg)]):=ya yw4.e <| ya y50.e <| ye _
theorem dn:type_of% (And.intro @D_zyc.eq_1 <| @D_zgg.eq_1):=by and_intros<;>intros<;>rfl
theorem o0 {p:Prop} (h:p:=by(first|(have hb2:=hb;simp only[Bool.and_eq_true,decide_eq_true_eq]at hb2;have h9:=ym8 hW2.1 hb2.1 (by omega);and_intros<;>first|omega|exact h9.1|exact h9.2));first|done|fail):p:=h
theorem den (a0:(List Sector))  : Den Tryz.prog 123 [encL 3 ym a0] (.bool (zu a0)):=by
 generalize hR:zu a0=r;unfold zu at hR;refine di Tryz.func123 Tryz.ntmps123 Tryz.results123 ?_;intro c hL hc hk;obtain⟨hL0,_⟩:=hL;have hw0:a0.length<9223372036854775808:=Nat.lt_succ_of_le (yj hL0).1;have hw1:∀ v∈a0,bwSector v:=fun v hv=>yx v ((yj hL0).2 v hv)
 clear hL0;simp only[pars,Nat.zero_add];iterate 3 refine rS ?_
 refine AWP.cond rfl (fun hb => ?_) (fun hb => ?_)
 ·replace hR:=ct hR
  refine rS ?_;refine AWP.ret ?_;subst hR;exact es
 ·replace hR:=cf hR
  refine rS ?_;refine AWP.block ?_;generalize hz1:yd (ypw a0) (a0.length-0) 0 ()=z1 at hR;refine AWP.range (ypw a0) (fun i1 s1=>⟨[(0,encL 3 ym a0),(3,.int .i64 (a0.length:Int)),(4,.int .i64 (i1:Int))],[]⟩) (fun i1 s1=>True) (a0.length) 0 () [] hz1 ot wt sm ?_;clear hz1;intro i1 s1 hi1 hW1 hz1;refine rS ?_;refine AWP.cond rfl (fun hb => ?_) (fun hb => ?_)
  ·have hlt1:i1<a0.length:=ot
   rw[yg hlt1]at hz1;simp only[ypw]at hz1;refine rD 23 ?_;refine AWP.cond rfl (fun hb => ?_) (fun hb => ?_)
   ·simp only[hb,cond_true]at hz1
    refine rS ?_;refine AWP.ret ?_;subst hz1;dsimp only at hR;subst hR;exact es
   ·simp only[hb,cond_false]at hz1
    refine rS ?_;exact⟨_,[],hlt1,wt,hz1,sm⟩
  ·obtain rfl:i1=a0.length:=ot
   rw[yh (Nat.le_refl _)]at hz1;subst hz1;dsimp only at hR;refine AWP.exit ?_;refine yb ?_;refine rS ?_;refine AWP.block ?_;generalize hz2:y5 (yet a0 s1) ((a0.length-((0:Int)).toNat)+1) 0=z2 at hR;refine AWP.whileW (yet a0 s1) (fun s2=>⟨[(0,encL 3 ym a0),(3,.int .i64 (a0.length:Int)),(5,.int .i64 s2)],[]⟩) (fun s2=>0<=s2/\s2<=a0.length) (fun s2=>a0.length-(s2).toNat) ((a0.length-((0:Int)).toNat)+1) 0 [] hz2 m0 wt sm ?_;clear hz2;intro s2 k2 hW2 hm2 hz2;simp only[yet]at hz2;refine rS ?_;refine AWP.cond rfl (fun hb => ?_) (fun hb => ?_)
   ·simp only[hb,cond_true]at hz2
    refine rD 21 ?_;refine AWP.cond rfl (fun hb => ?_) (fun hb => ?_)
    ·simp only[hb,cond_true]at hz2
     refine rS ?_;refine AWP.ret ?_;subst hz2;dsimp only at hR;subst hR;exact es
    ·simp only[hb,cond_false]at hz2
     refine rS ?_;exact⟨_,[],ms,wt,hz2,sm⟩
   ·simp only[hb,cond_false]at hz2
    refine AWP.exit ?_;refine yb ?_;subst hz2;dsimp only at hR;refine rS ?_;refine AWP.ret ?_;subst hR;exact es
end N123
def D_zu : DF
 | [x0]=>some (.bool (zu (rdL yq x0)),false,[wL 3 ym yq x0])
 | _=>none
theorem yfy:OkD Tryz.prog 123 D_zu:=by unfold D_zu;exact dk N123.den
def y7q (a0:(List Sector)) (i1:Nat) (s1:List UInt8) (i2:Nat) (s2:List UInt8):Except (Sum ((List UInt8)) (List UInt8)) (List UInt8):=
 (bif (((a0.getD i2 default).Color) == ([[87],[82],[71],[89]].getD i1 default))then .error (.inr (s2++([[87],[82],[71],[89]].getD i1 default)))else .ok s2)
def yin (a0:(List Sector)) (i1:Nat) (s1:List UInt8):Except ((List UInt8)) (List UInt8):=
 (match yd (y7q a0 i1 s1) (a0.length-0) 0 s1 with|.error (.inl e)=>.error e|.error (.inr s2)=>.ok s2|.ok s2=>.ok s2)
def zqc (a0:(List Sector)):(List UInt8):=
 (match yd (yin a0) (4-0) 0 []with|.error e=>e|.ok s1=>s1)
namespace N124
theorem DD:DOk Tryz.prog (Go.Ab.DD []):=ye _
theorem o0 {p:Prop} (h:p:=by(first|(have h4:=hq4 i1;have h1:=hW1;have h2:=hW2;and_intros<;>omega));first|done|fail):p:=h
theorem lx {p:Prop} (h:p:=by(exact lxx);first|done|fail):p:=h
theorem den (a0:(List Sector)) (hb0:a0.length<1099511627776) (hb1:∀ v∈a0,bdSector v):Den Tryz.prog 124 [encL 3 ym a0] (.str (zqc a0)):=by
 generalize hR:zqc a0=r;unfold zqc at hR;refine di Tryz.func124 Tryz.ntmps124 Tryz.results124 ?_;intro c hL hc hk;obtain⟨hL0,_⟩:=hL;have hw0:a0.length<9223372036854775808:=Nat.lt_succ_of_le (yj hL0).1;have hw1:∀ v∈a0,bwSector v:=fun v hv=>yx v ((yj hL0).2 v hv)
 clear hL0;simp only[pars,Nat.zero_add];have hq4:∀ i:Nat,(([[87],[82],[71],[89]]:List (List UInt8)).getD i default).length<=1:=fun i=>by rcases i with _|_|_|_|i<;>first|exact Nat.le_refl _|exact Nat.zero_le _
 iterate 4 refine rS ?_
 refine AWP.block ?_;generalize hz1:yd (yin a0) (4-0) 0 []=z1 at hR;refine AWP.range (yin a0) (fun i1 s1=>⟨[(0,encL 3 ym a0),(3,.str s1),(4,.ref 0 1 0 4),(5,.int .i64 (i1:Int))],[.arr 9 1 [[87],[82],[71],[89]].length (fun j=>eS ([[87],[82],[71],[89]].getD j default))]⟩) (fun i1 s1=>s1.length<=i1) (4) 0 [] [0] hz1 ot (by(simp)) sm ?_;clear hz1;intro i1 s1 hi1 hW1 hz1;refine rS ?_;refine AWP.cond rfl (fun hb => ?_) (fun hb => ?_)
 ·have hlt1:i1<4:=ot
  rw[yg hlt1]at hz1;simp only[yin]at hz1;refine rS ?_;refine AWP.block ?_;generalize hz2:yd (y7q a0 i1 s1) (a0.length-0) 0 s1=z2 at hz1;refine AWP.range (y7q a0 i1 s1) (fun i2 s2=>⟨[(0,encL 3 ym a0),(3,.str s2),(4,.ref 0 1 0 4),(5,.int .i64 (i1:Int)),(6,.int .i64 (i2:Int))],[.arr 9 1 [[87],[82],[71],[89]].length (fun j=>eS ([[87],[82],[71],[89]].getD j default))]⟩) (fun i2 s2=>s2.length<=i1) (a0.length) 0 s1 [0] hz2 ot (by(exact hW1)) sm ?_;clear hz2;intro i2 s2 hi2 hW2 hz2;refine rS ?_;refine AWP.cond rfl (fun hb => ?_) (fun hb => ?_)
  ·have hlt2:i2<a0.length:=ot
   rw[yg hlt2]at hz2;simp only[y7q]at hz2;refine rD 9 ?_;refine AWP.cond rfl (fun hb => ?_) (fun hb => ?_)
   ·simp only[hb,cond_true]at hz2
    refine rS ?_;refine AWP.exit ?_;refine yof rfl ?_;refine yb ?_;subst hz2;dsimp only at hz1;refine rS ?_;exact⟨_,[0],hlt1,by(have h4:=hq4 i1;simp only[ln]at *;omega),hz1,sm⟩
   ·simp only[hb,cond_false]at hz2
    refine rS ?_;exact⟨_,[0],hlt2,by(first|exact hW2|assumption),hz2,sm⟩
  ·obtain rfl:i2=a0.length:=ot
   rw[yh (Nat.le_refl _)]at hz2;subst hz2;dsimp only at hz1;refine AWP.exit ?_;refine yb ?_;refine rS ?_;exact⟨_,[0],hlt1,by(have h4:=hq4 i1;simp only[ln]at *;omega),hz1,sm⟩
 ·obtain rfl:i1=4:=ot
  rw[yh (Nat.le_refl _)]at hz1;subst hz1;dsimp only at hR;refine AWP.exit ?_;refine yb ?_;refine rS ?_;refine AWP.ret ?_;subst hR;exact es
end N124
def D_zqc : DF
 | [x0]=>some (.str (zqc (rdL yq x0)),false,[wL 3 ym yq x0,(rdL yq x0).length<1099511627776,∀ v∈(rdL yq x0),bdSector v])
 | _=>none
theorem yr1:OkD Tryz.prog 124 D_zqc:=by unfold D_zqc;exact dk N124.den
def zcc (a0:Int):Bool:=
 (zi a0 1 9)
namespace N228
theorem DD:DOk Tryz.prog (Go.Ab.DD [(95,dP D_zi)]):=ya yce.e <| ye _
theorem dn:type_of% (@D_zi.eq_1):=by and_intros<;>intros<;>rfl
theorem ol:type_of% (@zi.eq_1):=@zi.eq_1
theorem den (a0:Int)  : Den Tryz.prog 228 [.int .i64 a0] (.bool (zcc a0)):=by
 generalize hR:zcc a0=r;unfold zcc at hR;refine di Tryz.func228 Tryz.ntmps228 Tryz.results228 ?_;intro c hL hc hk;clear hL;simp only[pars,Nat.zero_add];iterate 2 refine rS ?_
 refine AWP.ret ?_;subst hR;exact es
end N228
def D_zcc : DF
 | [x0]=>some (.bool (zcc (rdI x0)),false,[wI .i64 x0])
 | _=>none
theorem ypu:OkD Tryz.prog 228 D_zcc:=by unfold D_zcc;exact dk N228.den
def zue (a0:Int):(List UInt8):=
 (([[],[82],[71],[66,89],[66,89,66],[89,66],[89,66,89],[66,82,66],[82,87],[89]]:List (List UInt8)).getD ((a0).toNat) default)
namespace N229
theorem DD:DOk Tryz.prog (Go.Ab.DD []):=ye _
theorem lx {p:Prop} (h:p:=by(exact lxx);first|done|fail):p:=h
theorem den (a0:Int) (hp0:0<=a0) (hp1:a0<=9):Den Tryz.prog 229 [.int .i64 a0] (.str (zue a0)):=by
 generalize hR:zue a0=r;unfold zue at hR;refine di Tryz.func229 Tryz.ntmps229 Tryz.results229 ?_;intro c hL hc hk;clear hL;simp only[pars,Nat.zero_add];iterate 2 refine rS ?_
 refine AWP.ret ?_;subst hR;exact es
end N229
def D_zue : DF
 | [x0]=>some (.str (zue (rdI x0)),false,[wI .i64 x0,0<=(rdI x0),(rdI x0)<=9])
 | _=>none
theorem yg2:OkD Tryz.prog 229 D_zue:=by unfold D_zue;exact dk N229.den
def zqb (a0:Int):(List (List UInt8)):=
 (bif (a0 == 1)then[[99,97,110],[112,105,108,108,97,114],[115,112,97,114]]else(bif (a0 == 2)then[[99,111,110,101],[112,105,108,108,97,114],[115,112,97,114]]else(bif (a0 == 8)then[[115,112,104,101,114,101],[112,105,108,108,97,114],[115,112,97,114]]else(bif (a0 == 9)then[[99,97,110],[99,111,110,101],[112,105,108,108,97,114],[115,112,97,114],[115,112,104,101,114,101]]else[[112,105,108,108,97,114],[115,112,97,114]]))))
namespace N230
theorem DD:DOk Tryz.prog (Go.Ab.DD []):=ye _
theorem lx {p:Prop} (h:p:=by(exact lxx);first|done|fail):p:=h
theorem den (a0:Int)  : Den Tryz.prog 230 [.int .i64 a0] (ownL 9 1 eS (zqb a0)):=by
 generalize hR:zqb a0=r;unfold zqb at hR;refine di Tryz.func230 Tryz.ntmps230 Tryz.results230 ?_;intro c hL hc hk;clear hL;simp only[pars,Nat.zero_add];iterate 3 refine rS ?_
 refine AWP.cond rfl (fun hb => ?_) (fun hb => ?_)
 ·replace hR:=ct hR
  refine rS ?_;refine AWP.ret ?_;subst hR;exact es
 ·replace hR:=cf hR
  refine rS ?_;refine AWP.cond rfl (fun hb => ?_) (fun hb => ?_)
  ·replace hR:=ct hR
   refine rS ?_;refine AWP.ret ?_;subst hR;exact es
  ·replace hR:=cf hR
   refine rS ?_;refine AWP.cond rfl (fun hb => ?_) (fun hb => ?_)
   ·replace hR:=ct hR
    refine rS ?_;refine AWP.ret ?_;subst hR;exact es
   ·replace hR:=cf hR
    refine rS ?_;refine AWP.cond rfl (fun hb => ?_) (fun hb => ?_)
    ·replace hR:=ct hR
     refine rS ?_;refine AWP.ret ?_;subst hR;exact es
    ·replace hR:=cf hR
     refine rS ?_;refine AWP.ret ?_;subst hR;exact es
end N230
def D_zqb : DF
 | [x0]=>some (ownL 9 1 eS (zqb (rdI x0)),false,[wI .i64 x0])
 | _=>none
theorem yn3:OkD Tryz.prog 230 D_zqb:=by unfold D_zqb;exact dk N230.den
def zaf (a0:Int):(List UInt8):=
 (([[],[99,97,110],[99,111,110,101],[117,112],[98,97,115,101],[100,111,119,110],[112,111,105,110,116],[98,97,108,108,115],[98,97,108,108],[99,114,111,115,115]]:List (List UInt8)).getD ((a0).toNat) default)
namespace N231
theorem DD:DOk Tryz.prog (Go.Ab.DD []):=ye _
theorem lx {p:Prop} (h:p:=by(exact lxx);first|done|fail):p:=h
theorem den (a0:Int) (hp0:0<=a0) (hp1:a0<=9):Den Tryz.prog 231 [.int .i64 a0] (.str (zaf a0)):=by
 generalize hR:zaf a0=r;unfold zaf at hR;refine di Tryz.func231 Tryz.ntmps231 Tryz.results231 ?_;intro c hL hc hk;clear hL;simp only[pars,Nat.zero_add];iterate 2 refine rS ?_
 refine AWP.ret ?_;subst hR;exact es
end N231
def D_zaf : DF
 | [x0]=>some (.str (zaf (rdI x0)),false,[wI .i64 x0,0<=(rdI x0),(rdI x0)<=9])
 | _=>none
theorem yg1:OkD Tryz.prog 231 D_zaf:=by unfold D_zaf;exact dk N231.den
def yzl (a0:Mark) (i1:Nat) (s1:Unit):Except (Bool) (Unit):=
 (bif (((zqb a0.Kind).getD i1 default) == a0.Shape)then .error true else .ok ())
def zcb (a0:Mark):Bool:=
 (bif (a0.Kind == 0)then(a0.Kind == 0 && (a0.Colors == [] && (a0.Shape == [] && a0.Topmark == [])))else(bif (((!(zcc a0.Kind)) || (a0.Colors != (zue a0.Kind))) || ((a0.Topmark != []) && (a0.Topmark != (zaf a0.Kind))))then false else(match yd (yzl a0) (((zqb a0.Kind).length)-0) 0 ()with|.error e=>e|.ok s1=>false)))
namespace N200
theorem DD:DOk Tryz.prog (Go.Ab.DD [(228,dP D_zcc),(229,dP D_zue),(230,dP D_zqb),(231,dP D_zaf)]):=ya ypu.e <| ya yg2.e <| ya yn3.e <| ya yg1.e <| ye _
theorem dn:type_of% (And.intro @D_zcc.eq_1 <| And.intro @D_zue.eq_1 <| And.intro @D_zqb.eq_1 <| @D_zaf.eq_1):=by and_intros<;>intros<;>rfl
theorem o0 {p:Prop} (h:p:=by(first|(simp only[zcc,zi];refine⟨fun h => ?_,fun h _ => ?_⟩<;>(simp at h;omega)));first|done|fail):p:=h
theorem den (a0:Mark)  : Den Tryz.prog 200 [.ep (ykd a0)] (.bool (zcb a0)):=by
 generalize hR:zcb a0=r;unfold zcb at hR;refine di Tryz.func200 Tryz.ntmps200 Tryz.results200 ?_;intro c hL hc hk;obtain⟨hL0,_⟩:=hL;have hw0:bwMark a0:=ywd a0 hL0;clear hL0;simp only[pars,Nat.zero_add];have hs5:(zqb a0.Kind).length<=5:=by unfold zqb;simp only[Bool.cond_eq_ite];(repeat' split)<;>simp
 iterate 2 refine rS ?_
 refine AWP.cond rfl (fun hb => ?_) (fun hb => ?_)
 ·replace hR:=ct hR
  refine rS ?_;refine AWP.ret ?_;subst hR;exact es
 ·replace hR:=cf hR
  refine rD 37 ?_;refine AWP.cond rfl (fun hb => ?_) (fun hb => ?_)
  ·replace hR:=ct hR
   refine rS ?_;refine AWP.ret ?_;subst hR;exact es
  ·replace hR:=cf hR
   iterate 2 refine rS ?_
   refine AWP.block ?_;generalize hz1:yd (yzl a0) (((zqb a0.Kind).length)-0) 0 ()=z1 at hR;refine AWP.range (yzl a0) (fun i1 s1=>⟨[(0,.ep (ykd a0)),(3,.ref 0 1 0 ((zqb a0.Kind).length)),(4,.int .i64 (i1:Int))],[.arr 9 1 (zqb a0.Kind).length (fun j=>eS ((zqb a0.Kind).getD j default))]⟩) (fun i1 s1=>True) (((zqb a0.Kind).length)) 0 () [0] hz1 ot wt sm ?_;clear hz1;intro i1 s1 hi1 hW1 hz1;refine rS ?_;refine AWP.cond rfl (fun hb => ?_) (fun hb => ?_)
   ·have hlt1:i1<((zqb a0.Kind).length):=ot
    rw[yg hlt1]at hz1;simp only[yzl]at hz1;refine rD 8 ?_;refine AWP.cond rfl (fun hb => ?_) (fun hb => ?_)
    ·simp only[hb,cond_true]at hz1
     refine rS ?_;refine AWP.ret ?_;subst hz1;dsimp only at hR;subst hR;exact es
    ·simp only[hb,cond_false]at hz1
     refine rS ?_;exact⟨_,[0],hlt1,wt,hz1,sm⟩
   ·obtain rfl:i1=((zqb a0.Kind).length):=ot
    rw[yh (Nat.le_refl _)]at hz1;subst hz1;dsimp only at hR;refine AWP.exit ?_;refine yb ?_;refine rS ?_;refine AWP.ret ?_;subst hR;exact es
end N200
def D_zcb : DF
 | [x0]=>some (.bool (zcb (rdP ype x0)),false,[wP ykd ype x0])
 | _=>none
theorem y4t:OkD Tryz.prog 200 D_zcb:=by unfold D_zcb;exact dk N200.den
def zed (a0:Mark):Bool:=
 (zcb a0)
namespace N120
theorem DD:DOk Tryz.prog (Go.Ab.DD [(200,dP D_zcb)]):=ya y4t.e <| ye _
theorem dn:type_of% (@D_zcb.eq_1):=by and_intros<;>intros<;>rfl
theorem den (a0:Mark)  : Den Tryz.prog 120 [.agg (ykd a0)] (.bool (zed a0)):=by
 generalize hR:zed a0=r;unfold zed at hR;refine di Tryz.func120 Tryz.ntmps120 Tryz.results120 ?_;intro c hL hc hk;obtain⟨hL0,_⟩:=hL;have hw0:bwMark a0:=ywd a0 hL0;clear hL0;simp only[pars,Nat.zero_add];iterate 2 refine rS ?_
 refine AWP.ret ?_;subst hR;exact es
end N120
def D_zed : DF
 | [x0]=>some (.bool (zed (rdG ype x0)),false,[wG ykd ype x0])
 | _=>none
theorem yt2:OkD Tryz.prog 120 D_zed:=by unfold D_zed;exact dk N120.den
def zic (a0:Point):Bool:=
 ((zi a0.X 0 200000) && (zi a0.Y 0 200000))
namespace N119
theorem DD:DOk Tryz.prog (Go.Ab.DD [(95,dP D_zi)]):=ya yce.e <| ye _
theorem dn:type_of% (@D_zi.eq_1):=by and_intros<;>intros<;>rfl
theorem ol:type_of% (@zi.eq_1):=@zi.eq_1
theorem den (a0:Point)  : Den Tryz.prog 119 [.agg (ygd a0)] (.bool (zic a0)):=by
 generalize hR:zic a0=r;unfold zic at hR;refine di Tryz.func119 Tryz.ntmps119 Tryz.results119 ?_;intro c hL hc hk;clear hL;simp only[pars,Nat.zero_add];iterate 2 refine rS ?_
 refine AWP.ret ?_;subst hR;exact es
end N119
def D_zic : DF
 | [x0]=>some (.bool (zic (rdG ydf x0)),false,[wG ygd ydf x0])
 | _=>none
theorem y5u:OkD Tryz.prog 119 D_zic:=by unfold D_zic;exact dk N119.den
def zrd (a0:Character):Bool:=
 (((((a0.Kind == 0) && ((a0.Group.length:Int) == 0)) && (a0.Letter == [])) && (a0.Colors == [])) && (a0.Period == 0))
namespace N121
theorem DD:DOk Tryz.prog (Go.Ab.DD []):=ye _
theorem den (a0:Character)  : Den Tryz.prog 121 [.ep (yi a0)] (.bool (zrd a0)):=by
 generalize hR:zrd a0=r;unfold zrd at hR;refine di Tryz.func121 Tryz.ntmps121 Tryz.results121 ?_;intro c hL hc hk;obtain⟨hL0,_⟩:=hL;have hw0:bwCharacter a0:=yp a0 hL0;clear hL0;simp only[pars,Nat.zero_add];iterate 2 refine rS ?_
 refine AWP.ret ?_;subst hR;exact es
end N121
def D_zrd : DF
 | [x0]=>some (.bool (zrd (rdP yc x0)),false,[wP yi yc x0])
 | _=>none
theorem y11:OkD Tryz.prog 121 D_zrd:=by unfold D_zrd;exact dk N121.den
def yon (a0:(List UInt8)) (i1:Nat) (s1:Int):Except ((Int×Bool)) (Int):=
 (bif (decide (((a0.getD i1 0).toNat:Int)<48) || decide (57<((a0.getD i1 0).toNat:Int)))then .error (0,false)else .ok (IntKind.wrap .i64 ((IntKind.wrap .i64 (10 * s1))+(IntKind.wrap .i64 (IntKind.wrap .u8 (((a0.getD i1 0).toNat:Int)-48))))))
def zyb (a0:(List UInt8)):(Int×Bool):=
 (match yd (yon a0) (a0.length-0) 0 0 with|.error e=>e|.ok s1=>(s1,true))
namespace N172
theorem DD:DOk Tryz.prog (Go.Ab.DD []):=ye _
theorem den (a0:(List UInt8))  : Den Tryz.prog 172 [.str a0] (.tup [.int .i64 ((zyb a0).1),.bool ((zyb a0).2)]):=by
 generalize hR:zyb a0=r;unfold zyb at hR;refine di Tryz.func172 Tryz.ntmps172 Tryz.results172 ?_;intro c hL hc hk;obtain⟨hL0,_⟩:=hL;have hw0:a0.length<9223372036854775808:=Nat.lt_succ_of_le hL0;clear hL0;simp only[pars,Nat.zero_add];iterate 3 refine rS ?_
 refine AWP.block ?_;generalize hz1:yd (yon a0) (a0.length-0) 0 0=z1 at hR;refine AWP.range (yon a0) (fun i1 s1=>⟨[(0,.str a0),(4,.int .i64 s1),(5,.int .i64 (i1:Int))],[]⟩) (fun i1 s1=>True) (a0.length) 0 0 [] hz1 ot wt sm ?_;clear hz1;intro i1 s1 hi1 hW1 hz1;refine rS ?_;refine AWP.cond rfl (fun hb => ?_) (fun hb => ?_)
 ·have hlt1:i1<a0.length:=ot
  rw[yg hlt1]at hz1;simp only[yon]at hz1;refine rS ?_;refine AWP.cond rfl (fun hb => ?_) (fun hb => ?_)
  ·simp only[hb,cond_true]at hz1
   refine rS ?_;refine AWP.ret ?_;subst hz1;dsimp only at hR;subst hR;exact es
  ·simp only[hb,cond_false]at hz1
   iterate 2 refine rS ?_
   exact⟨_,[],hlt1,wt,hz1,sm⟩
 ·obtain rfl:i1=a0.length:=ot
  rw[yh (Nat.le_refl _)]at hz1;subst hz1;dsimp only at hR;refine AWP.exit ?_;refine yb ?_;refine rS ?_;refine AWP.ret ?_;subst hR;exact es
end N172
def D_zyb : DF
 | [x0]=>some (.tup [.int .i64 ((zyb (rdS x0)).1),.bool ((zyb (rdS x0)).2)],false,[wS x0])
 | _=>none
theorem y63:OkD Tryz.prog 172 D_zyb:=by unfold D_zyb;exact dk N172.den
def zff (a0:Int):Bool:=
 (zi a0 2000 2273)
namespace N245
theorem DD:DOk Tryz.prog (Go.Ab.DD [(95,dP D_zi)]):=ya yce.e <| ye _
theorem dn:type_of% (@D_zi.eq_1):=by and_intros<;>intros<;>rfl
theorem ol:type_of% (@zi.eq_1):=@zi.eq_1
theorem den (a0:Int)  : Den Tryz.prog 245 [.int .i64 a0] (.bool (zff a0)):=by
 generalize hR:zff a0=r;unfold zff at hR;refine di Tryz.func245 Tryz.ntmps245 Tryz.results245 ?_;intro c hL hc hk;clear hL;simp only[pars,Nat.zero_add];iterate 2 refine rS ?_
 refine AWP.ret ?_;subst hR;exact es
end N245
def D_zff : DF
 | [x0]=>some (.bool (zff (rdI x0)),false,[wI .i64 x0])
 | _=>none
theorem yq4:OkD Tryz.prog 245 D_zff:=by unfold D_zff;exact dk N245.den
def zme (a0:Int):Bool:=
 ((((a0.tmod 4) == 0) && ((a0.tmod 100) != 0)) || ((a0.tmod 400) == 0))
namespace N299
theorem DD:DOk Tryz.prog (Go.Ab.DD []):=ye _
theorem den (a0:Int)  : Den Tryz.prog 299 [.int .i64 a0] (.bool (zme a0)):=by
 generalize hR:zme a0=r;unfold zme at hR;refine di Tryz.func299 Tryz.ntmps299 Tryz.results299 ?_;intro c hL hc hk;clear hL;simp only[pars,Nat.zero_add];iterate 2 refine rS ?_
 refine AWP.ret ?_;subst hR;exact es
end N299
def D_zme : DF
 | [x0]=>some (.bool (zme (rdI x0)),false,[wI .i64 x0])
 | _=>none
theorem yov:OkD Tryz.prog 299 D_zme:=by unfold D_zme;exact dk N299.den
def zmc (a0:Int) (a1:Int):Int:=
 (bif (a1 == 2)then(bif (zme a0)then 29 else 28)else(bif (a1 == 4)then 30 else(bif (a1 == 6)then 30 else(bif (a1 == 9)then 30 else(bif (a1 == 11)then 30 else 31)))))
namespace N246
theorem DD:DOk Tryz.prog (Go.Ab.DD [(299,dP D_zme)]):=ya yov.e <| ye _
theorem dn:type_of% (@D_zme.eq_1):=by and_intros<;>intros<;>rfl
theorem den (a0:Int) (a1:Int)  : Den Tryz.prog 246 [.int .i64 a0,.int .i64 a1] (.int .i64 (zmc a0 a1)):=by
 generalize hR:zmc a0 a1=r;unfold zmc at hR;refine di Tryz.func246 Tryz.ntmps246 Tryz.results246 ?_;intro c hL hc hk;clear hL;simp only[pars,Nat.zero_add];iterate 3 refine rS ?_
 refine AWP.cond rfl (fun hb => ?_) (fun hb => ?_)
 ·replace hR:=ct hR
  refine rS ?_;refine AWP.cond rfl (fun hb => ?_) (fun hb => ?_)
  ·replace hR:=ct hR
   refine rS ?_;refine AWP.ret ?_;subst hR;exact es
  ·replace hR:=cf hR
   refine rS ?_;refine AWP.ret ?_;subst hR;exact es
 ·replace hR:=cf hR
  refine rS ?_;refine AWP.cond rfl (fun hb => ?_) (fun hb => ?_)
  ·replace hR:=ct hR
   refine AWP.skip ?_;refine AWP.cond rfl (fun hb => ?_) (fun hb => ?_)
   ·refine rS ?_
    refine AWP.ret ?_;subst hR;exact es
   ·exfalso;simp_all
  ·replace hR:=cf hR
   refine rS ?_;refine AWP.cond rfl (fun hb => ?_) (fun hb => ?_)
   ·replace hR:=ct hR
    refine AWP.skip ?_;refine AWP.cond rfl (fun hb => ?_) (fun hb => ?_)
    ·refine rS ?_
     refine AWP.ret ?_;subst hR;exact es
    ·exfalso;simp_all
   ·replace hR:=cf hR
    refine rS ?_;refine AWP.cond rfl (fun hb => ?_) (fun hb => ?_)
    ·replace hR:=ct hR
     refine AWP.skip ?_;refine AWP.cond rfl (fun hb => ?_) (fun hb => ?_)
     ·refine rS ?_
      refine AWP.ret ?_;subst hR;exact es
     ·exfalso;simp_all
    ·replace hR:=cf hR
     refine rS ?_;refine AWP.cond rfl (fun hb => ?_) (fun hb => ?_)
     ·replace hR:=ct hR
      refine rS ?_;refine AWP.ret ?_;subst hR;exact es
     ·replace hR:=cf hR
      refine rS ?_;refine AWP.ret ?_;subst hR;exact es
end N246
def D_zmc : DF
 | [x0,x1]=>some (.int .i64 (zmc (rdI x0) (rdI x1)),false,[wI .i64 x0,wI .i64 x1])
 | _=>none
theorem yqu:OkD Tryz.prog 246 D_zmc:=by unfold D_zmc;exact dk N246.den
theorem yty (y m:Int):28<=zmc y m/\zmc y m<=31:=by
 unfold zmc;cases zme y<;>cases(m == 2)<;>cases(m == 4)<;>cases(m == 6)<;>cases(m == 9)<;>cases(m == 11)<;>simp
theorem y2n {y m:Int} (h1:1<=m) (h2:m<=12):zmc y m=mdD (yeb y) m.toNat:=by
 show zmc y m=mdD (zme y) m.toNat;unfold zmc;rcases y8e h1 h2 with rfl|rfl|rfl|rfl|rfl|rfl|rfl|rfl|rfl|rfl|rfl|rfl<;>cases zme y<;>rfl
def ygn (a0:Int) (a1:Int) (a2:Int) (i1:Nat) (s1:Int):Except (Int) (Int):=
 (bif (zme (i1:Int))then .ok (IntKind.wrap .i64 ((IntKind.wrap .i64 (s1+365))+1))else .ok (IntKind.wrap .i64 (s1+365)))
def yxp (a0:Int) (a1:Int) (a2:Int) (s1:Int) (i2:Nat) (s2:Int):Except (Int) (Int):=
 .ok (IntKind.wrap .i64 (s2+(zmc a0 (i2:Int))))
def zdc (a0:Int) (a1:Int) (a2:Int):Int:=
 (match yd (ygn a0 a1 a2) ((a0).toNat-2000) 2000 (IntKind.wrap .i64 (a2-1))with|.error e=>e|.ok s1=>(match yd (yxp a0 a1 a2 s1) ((a1).toNat-1) 1 s1 with|.error e=>e|.ok s2=>s2))
namespace N247
theorem DD:DOk Tryz.prog (Go.Ab.DD [(246,dP D_zmc),(299,dP D_zme)]):=ya yqu.e <| ya yov.e <| ye _
theorem dn:type_of% (And.intro @D_zmc.eq_1 <| @D_zme.eq_1):=by and_intros<;>intros<;>rfl
set_option maxHeartbeats 400000 in
set_option maxRecDepth 20000 in
theorem den (a0:Int) (a1:Int) (a2:Int) (hp0:2000<=a0) (hp1:a0<=2273) (hp2:1<=a1) (hp3:a1<=12) (hp4:1<=a2) (hp5:a2<=31):Den Tryz.prog 247 [.int .i64 a0,.int .i64 a1,.int .i64 a2] (.int .i64 (zdc a0 a1 a2)):=by
 generalize hR:zdc a0 a1 a2=r;unfold zdc at hR;refine di Tryz.func247 Tryz.ntmps247 Tryz.results247 ?_;intro c hL hc hk;clear hL;simp only[pars,Nat.zero_add];iterate 3 refine rS ?_
 refine AWP.block ?_;generalize hz1:yd (ygn a0 a1 a2) ((a0).toNat-2000) 2000 (IntKind.wrap .i64 (a2-1))=z1 at hR;refine AWP.range (ygn a0 a1 a2) (fun i1 s1=>⟨[(0,.int .i64 a0),(1,.int .i64 a1),(7,.int .i64 s1),(8,.int .i64 (i1:Int))],[]⟩) (fun i1 s1=>2000<=i1/\0<=s1/\s1<=30+366 * ((i1:Int)-2000)/\2000<=i1) ((a0).toNat) 2000 (IntKind.wrap .i64 (a2-1)) [] hz1 ot wt sm ?_;clear hz1;intro i1 s1 hi1 hW1 hz1;refine rS ?_;refine AWP.cond rfl (fun hb => ?_) (fun hb => ?_)
 ·have hlt1:i1<(a0).toNat:=ot
  rw[yg hlt1]at hz1;simp only[ygn]at hz1;iterate 2 refine rS ?_
  refine AWP.cond rfl (fun hb => ?_) (fun hb => ?_)
  ·simp only[hb,cond_true]at hz1
   iterate 2 refine rS ?_
   exact⟨_,[],hlt1,wt,hz1,sm⟩
  ·simp only[hb,cond_false]at hz1
   refine rS ?_;exact⟨_,[],hlt1,wt,hz1,sm⟩
 ·obtain rfl:i1=(a0).toNat:=ot
  rw[yh (Nat.le_refl _)]at hz1;subst hz1;dsimp only at hR;refine AWP.exit ?_;refine yb ?_;refine rS ?_;refine AWP.block ?_;generalize hz2:yd (yxp a0 a1 a2 s1) ((a1).toNat-1) 1 s1=z2 at hR;refine AWP.range (yxp a0 a1 a2 s1) (fun i2 s2=>⟨[(0,.int .i64 a0),(1,.int .i64 a1),(7,.int .i64 s2),(9,.int .i64 (i2:Int))],[]⟩) (fun i2 s2=>1<=i2/\0<=s2/\s2<=30+366 * 273+31 * ((i2:Int)-1)/\1<=i2) ((a1).toNat) 1 s1 [] hz2 ot wt sm ?_;clear hz2;intro i2 s2 hi2 hW2 hz2;refine rS ?_;refine AWP.cond rfl (fun hb => ?_) (fun hb => ?_)
  ·have hlt2:i2<(a1).toNat:=ot
   rw[yg hlt2]at hz2;simp only[yxp]at hz2;iterate 2 refine rS ?_
   exact⟨_,[],hlt2,by(have h9:=yty a0 (i2:Int);simp only[ob,ln,ol]at *;omega),hz2,sm⟩
  ·obtain rfl:i2=(a1).toNat:=ot
   rw[yh (Nat.le_refl _)]at hz2;subst hz2;dsimp only at hR;refine AWP.exit ?_;refine yb ?_;refine rS ?_;refine AWP.ret ?_;subst hR;exact es
end N247
def D_zdc : DF
 | [x0,x1,x2]=>some (.int .i64 (zdc (rdI x0) (rdI x1) (rdI x2)),false,[wI .i64 x0,wI .i64 x1,wI .i64 x2,2000<=(rdI x0),(rdI x0)<=2273,1<=(rdI x1),(rdI x1)<=12,1<=(rdI x2),(rdI x2)<=31])
 | _=>none
theorem yx3:OkD Tryz.prog 247 D_zdc:=by unfold D_zdc;exact dk N247.den
def zne (a0:Int) (a1:Int) (a2:Int):(Int×Bool):=
 (bif (((!(zff a0)) || (!(zi a1 1 12))) || (!(zi a2 1 (zmc a0 a1))))then(0,false)else((zdc a0 a1 a2),decide ((zdc a0 a1 a2)<=99999)))
namespace N173
theorem DD:DOk Tryz.prog (Go.Ab.DD [(245,dP D_zff),(246,dP D_zmc),(247,dP D_zdc),(95,dP D_zi)]):=ya yq4.e <| ya yqu.e <| ya yx3.e <| ya yce.e <| ye _
theorem dn:type_of% (And.intro @D_zff.eq_1 <| And.intro @D_zmc.eq_1 <| And.intro @D_zdc.eq_1 <| @D_zi.eq_1):=by and_intros<;>intros<;>rfl
theorem ol:type_of% (@zi.eq_1):=@zi.eq_1
theorem o0 {p:Prop} (h:p:=by(first|(have h9:=yty a0 a1;have hb8:=hb;simp[zff,zi]at hb8;omega));first|done|fail):p:=h
theorem den (a0:Int) (a1:Int) (a2:Int)  : Den Tryz.prog 173 [.int .i64 a0,.int .i64 a1,.int .i64 a2] (.tup [.int .i64 ((zne a0 a1 a2).1),.bool ((zne a0 a1 a2).2)]):=by
 generalize hR:zne a0 a1 a2=r;unfold zne at hR;refine di Tryz.func173 Tryz.ntmps173 Tryz.results173 ?_;intro c hL hc hk;clear hL;simp only[pars,Nat.zero_add];iterate 2 refine rS ?_
 refine AWP.cond rfl (fun hb => ?_) (fun hb => ?_)
 ·replace hR:=ct hR
  refine rS ?_;refine AWP.ret ?_;subst hR;exact es
 ·replace hR:=cf hR
  iterate 2 refine rS ?_
  refine AWP.ret ?_;subst hR;exact es
end N173
def D_zne : DF
 | [x0,x1,x2]=>some (.tup [.int .i64 ((zne (rdI x0) (rdI x1) (rdI x2)).1),.bool ((zne (rdI x0) (rdI x1) (rdI x2)).2)],false,[wI .i64 x0,wI .i64 x1,wI .i64 x2])
 | _=>none
theorem yg3:OkD Tryz.prog 173 D_zne:=by unfold D_zne;exact dk N173.den
def zsd (a0:(List UInt8)):(Int×Bool):=
 (bif ((((a0.length:Int) != 10) || (((a0.getD 4 0).toNat:Int) != 45)) || (((a0.getD 7 0).toNat:Int) != 45))then(0,false)else(bif (((!((zyb (a0.take 4)).2)) || (!((zyb ((a0.take 7).drop 5)).2))) || (!((zyb ((a0.take a0.length).drop 8)).2)))then(0,false)else(bif (!((zne ((zyb (a0.take 4)).1) ((zyb ((a0.take 7).drop 5)).1) ((zyb ((a0.take a0.length).drop 8)).1)).2))then(0,false)else((zne ((zyb (a0.take 4)).1) ((zyb ((a0.take 7).drop 5)).1) ((zyb ((a0.take a0.length).drop 8)).1)).1,true))))
namespace N94
theorem DD:DOk Tryz.prog (Go.Ab.DD [(172,dP D_zyb),(173,dP D_zne)]):=ya y63.e <| ya yg3.e <| ye _
theorem dn:type_of% (And.intro @D_zyb.eq_1 <| @D_zne.eq_1):=by and_intros<;>intros<;>rfl
theorem den (a0:(List UInt8))  : Den Tryz.prog 94 [.str a0] (.tup [.int .i64 ((zsd a0).1),.bool ((zsd a0).2)]):=by
 generalize hR:zsd a0=r;unfold zsd at hR;refine di Tryz.func94 Tryz.ntmps94 Tryz.results94 ?_;intro c hL hc hk;obtain⟨hL0,_⟩:=hL;have hw0:a0.length<9223372036854775808:=Nat.lt_succ_of_le hL0;clear hL0;simp only[pars,Nat.zero_add];iterate 2 refine rS ?_
 refine AWP.cond rfl (fun hb => ?_) (fun hb => ?_)
 ·replace hR:=ct hR
  refine rS ?_;refine AWP.ret ?_;subst hR;exact es
 ·replace hR:=cf hR
  iterate 4 refine rS ?_
  refine AWP.cond rfl (fun hb => ?_) (fun hb => ?_)
  ·replace hR:=ct hR
   refine rS ?_;refine AWP.ret ?_;subst hR;exact es
  ·replace hR:=cf hR
   iterate 2 refine rS ?_
   refine AWP.cond rfl (fun hb => ?_) (fun hb => ?_)
   ·replace hR:=ct hR
    refine rS ?_;refine AWP.ret ?_;subst hR;exact es
   ·replace hR:=cf hR
    refine rS ?_;refine AWP.ret ?_;subst hR;exact es
end N94
def D_zsd : DF
 | [x0]=>some (.tup [.int .i64 ((zsd (rdS x0)).1),.bool ((zsd (rdS x0)).2)],false,[wS x0])
 | _=>none
theorem yu0:OkD Tryz.prog 94 D_zsd:=by unfold D_zsd;exact dk N94.den
def ymw (a0:(List UInt8)) (a1:Int) (i1:Nat) (s1:Int×List (List UInt8)):Except ((List (List UInt8))) (Int×List (List UInt8)):=
 (bif (((a0.getD i1 0).toNat:Int) == a1)then .ok (IntKind.wrap .i64 ((i1:Int)+1),s1.2++[(a0.take i1).drop ((s1.1).toNat)])else .ok (s1.1,s1.2))
def za (a0:(List UInt8)) (a1:Int):(List (List UInt8)):=
 (match yd (ymw a0 a1) (a0.length-0) 0 (0,([]:List (List UInt8)))with|.error e=>e|.ok s1=>s1.2++[(a0.take a0.length).drop ((s1.1).toNat)])
namespace N90
theorem DD:DOk Tryz.prog (Go.Ab.DD []):=ye _
theorem den (a0:(List UInt8)) (a1:Int) (hb0:a0.length<1099511627776) (hp0:a0.length<=1048576):Den Tryz.prog 90 [.str a0,.int .u8 a1] (ownL 9 1 eS (za a0 a1)):=by
 generalize hR:za a0 a1=r;unfold za at hR;refine di Tryz.func90 Tryz.ntmps90 Tryz.results90 ?_;intro c hL hc hk;obtain⟨hL0,hL1,_⟩:=hL;have hw0:a0.length<9223372036854775808:=Nat.lt_succ_of_le hL0;clear hL0 hL1;simp only[pars,Nat.zero_add];iterate 4 refine rS ?_
 refine AWP.block ?_;generalize hz1:yd (ymw a0 a1) (a0.length-0) 0 (0,([]:List (List UInt8)))=z1 at hR;refine AWP.range (ymw a0 a1) (fun i1 s1=>⟨[(0,.str a0),(1,.int .u8 a1),(5,.ref 0 1 0 s1.2.length),(6,.int .i64 s1.1),(7,.int .i64 (i1:Int))],[.arr 9 1 s1.2.length (fun j=>eS (s1.2.getD j default))]⟩) (fun i1 s1=>s1.2.length<=([]:List (List UInt8)).length+1 * i1/\0<=s1.1/\s1.1<=i1/\s1.2.length<=i1) (a0.length) 0 (0,([]:List (List UInt8))) [0] hz1 ot wt sm ?_;clear hz1;intro i1 s1 hi1 hW1 hz1;refine rS ?_;refine AWP.cond rfl (fun hb => ?_) (fun hb => ?_)
 ·have hlt1:i1<a0.length:=ot
  rw[yg hlt1]at hz1;simp only[ymw]at hz1;refine rS ?_;refine AWP.cond rfl (fun hb => ?_) (fun hb => ?_)
  ·simp only[hb,cond_true]at hz1
   iterate 3 refine rS ?_
   exact⟨_,[2],hlt1,wt,hz1,sm⟩
  ·simp only[hb,cond_false]at hz1
   refine rS ?_;exact⟨_,[0],hlt1,wt,hz1,sm⟩
 ·obtain rfl:i1=a0.length:=ot
  rw[yh (Nat.le_refl _)]at hz1;subst hz1;dsimp only at hR;refine AWP.exit ?_;refine yb ?_;refine rS ?_;refine AWP.ret ?_;subst hR;exact es
end N90
def D_za : DF
 | [x0,x1]=>some (ownL 9 1 eS (za (rdS x0) (rdI x1)),false,[wS x0,wI .u8 x1,(rdS x0).length<1099511627776,(rdS x0).length<=1048576])
 | _=>none
theorem yeh:OkD Tryz.prog 90 D_za:=by unfold D_za;exact dk N90.den
end Go.Ab
