/- A part of a proof: walks of functions and lemmas of our own. No conditions. -/
import Derived.Test.YtopoomikfjodkaaGreatDoorVAl
import Derived.Test.YtopoomikfjodkaaGreatDoorVAs
import Derived.Test.YtopoomikfjodkaaGreatDoorVAt
import Derived.Test.YtopoomikfjodkaaGreatDoorVAp
import Derived.Test.YtopoomikfjodkaaGreatDoorVAv
set_option linter.unusedSectionVars false
set_option linter.unusedVariables false
set_option linter.unusedSimpArgs false
set_option maxHeartbeats 1000000
namespace Go.Ab
open Go Go.Proofs
def ydk (a0:(List UInt8)) (a1:Int) (i1:Nat) (s1:Int) (i2:Nat) (s2:Int):Except (Int) (Int):=
 (bif decide (65535<(IntKind.wrap .i64 (s2 * 2)))then .ok (IntKind.wrap .i64 (BitVec.ofInt (IntKind.bits .i64) (IntKind.wrap .i64 (BitVec.ofInt (IntKind.bits .i64) (IntKind.wrap .i64 (s2 * 2)) &&& BitVec.ofInt (IntKind.bits .i64) 65535).toNat) ^^^ BitVec.ofInt (IntKind.bits .i64) 4129).toNat)else .ok (IntKind.wrap .i64 (s2 * 2)))
def yem (a0:(List UInt8)) (a1:Int) (i1:Nat) (s1:Int):Except (Int) (Int):=
 (match yf (ydk a0 a1 i1 s1) (8-0) 0 (IntKind.wrap .i64 (BitVec.ofInt (IntKind.bits .i64) s1 ^^^ BitVec.ofInt (IntKind.bits .i64) (IntKind.wrap .i64 ((IntKind.wrap .i64 ((a0.getD i1 0).toNat:Int)) * 256))).toNat)with|.error e=>.error e|.ok s2=>.ok s2)
def zp (a0:(List UInt8)) (a1:Int):Int:=
 (bif (!(zb a1 0 65535))then 0 else(match yf (yem a0 a1) (a0.length-0) 0 a1 with|.error e=>e|.ok s1=>s1))
namespace N229
theorem DD:DOk Tryz.prog (Go.Ab.DD [(181,dP D_zb)]):=ya yfc.e <| yd _
theorem dn:type_of% (@D_zb.eq_1):=by and_intros<;>intros<;>rfl
theorem ol:type_of% (@zb.eq_1):=@zb.eq_1
theorem den (a0:(List UInt8)) (a1:Int)  : Den Tryz.prog 229 [.str a0,.int .i64 a1] (.int .i64 (zp a0 a1)):=by
 generalize hR:zp a0 a1=r
 unfold zp at hR
 refine di Tryz.func229 Tryz.ntmps229 Tryz.results229 ?_
 intro c hL hc hk
 obtain⟨hL0,hL1,_⟩:=hL
 have hw0:a0.length<9223372036854775808:=Nat.lt_succ_of_le hL0
 clear hL0 hL1
 simp only[pars,Nat.zero_add]
 iterate 2 refine rS ?_
 refine AWP.cond rfl (fun hb => ?_) (fun hb => ?_)
 ·replace hR:=ct hR
  refine rS ?_
  refine AWP.ret ?_
  subst hR
  exact es
 ·replace hR:=cf hR
  refine rS ?_
  refine AWP.block ?_
  generalize hz1:yf (yem a0 a1) (a0.length-0) 0 a1=z1 at hR
  refine AWP.range (yem a0 a1) (fun i1 s1=>⟨[(0,.str a0),(1,.int .i64 s1),(5,.int .i64 (i1:Int))],[]⟩) (fun i1 s1=>True) (a0.length) 0 a1 [] hz1 ot wt sm ?_
  clear hz1
  intro i1 s1 hi1 hW1 hz1
  refine rS ?_
  refine AWP.cond rfl (fun hb => ?_) (fun hb => ?_)
  ·have hlt1:i1<a0.length:=ot
   rw[yh hlt1]at hz1;simp only[yem]at hz1
   iterate 2 refine rS ?_
   refine AWP.block ?_
   generalize hz2:yf (ydk a0 a1 i1 s1) (8-0) 0 (IntKind.wrap .i64 (BitVec.ofInt (IntKind.bits .i64) s1 ^^^ BitVec.ofInt (IntKind.bits .i64) (IntKind.wrap .i64 ((IntKind.wrap .i64 ((a0.getD i1 0).toNat:Int)) * 256))).toNat)=z2 at hz1
   refine AWP.range (ydk a0 a1 i1 s1) (fun i2 s2=>⟨[(0,.str a0),(1,.int .i64 s2),(5,.int .i64 (i1:Int)),(22,.int .i64 (i2:Int))],[]⟩) (fun i2 s2=>True) (8) 0 (IntKind.wrap .i64 (BitVec.ofInt (IntKind.bits .i64) s1 ^^^ BitVec.ofInt (IntKind.bits .i64) (IntKind.wrap .i64 ((IntKind.wrap .i64 ((a0.getD i1 0).toNat:Int)) * 256))).toNat) [] hz2 ot wt sm ?_
   clear hz2
   intro i2 s2 hi2 hW2 hz2
   refine rS ?_
   refine AWP.seq ?_
   refine AWP.cond rfl (fun hb => ?_) (fun hb => ?_)
   ·have hlt2:i2<8:=ot
    rw[yh hlt2]at hz2;simp only[ydk]at hz2
    iterate 2 refine rS ?_
    refine AWP.cond rfl (fun hb => ?_) (fun hb => ?_)
    ·simp only[hb,cond_true]at hz2
     iterate 2 refine rS ?_
     exact⟨_,[],hlt2,wt,hz2,sm⟩
    ·simp only[hb,cond_false]at hz2
     refine rS ?_
     exact⟨_,[],hlt2,wt,hz2,sm⟩
   ·obtain rfl:i2=8:=ot
    rw[yi (Nat.le_refl _)]at hz2;subst hz2;dsimp only at hz1
    refine AWP.exit ?_;refine yb ?_
    refine rS ?_
    exact⟨_,[],hlt1,wt,hz1,sm⟩
  ·obtain rfl:i1=a0.length:=ot
   rw[yi (Nat.le_refl _)]at hz1;subst hz1;dsimp only at hR
   refine AWP.exit ?_;refine yb ?_
   refine rS ?_
   refine AWP.ret ?_
   subst hR
   exact es
end N229
def D_zp : DF
 | [x0,x1]=>some (.int .i64 (zp (rdS x0) (rdI x1)),false,[wS x0,wI .i64 x1])
 | _=>none
theorem yk4:OkD Tryz.prog 229 D_zp:=by unfold D_zp;exact dk N229.den
end Go.Ab

namespace Go.Ab
open Go Go.Proofs
def zve (a0:Int) (a1:Int) (a2:Int):(List UInt8):=
 (zr [[101,100,105,116,105,111,110],(zd a0),(zbb a1),(zd a2)] [32])
namespace N132
theorem DD:DOk Tryz.prog (Go.Ab.DD [(107,dP D_zd),(127,dP D_zbb),(83,dP D_zr)]):=ya yjd.e <| ya yur.e <| ya yjh.e <| yd _
theorem dn:type_of% (And.intro @D_zd.eq_1 <| And.intro @D_zbb.eq_1 <| @D_zr.eq_1):=by and_intros<;>intros<;>rfl
theorem gr {p:Prop} (h:p:=by(grind [yvb,y6j]);first|done|fail):p:=h
theorem o0 {p:Prop} (h:p:=by(first|((repeat' with_reducible apply And.intro)<;>(first|omega|assumption|(simp only[List.length_append,List.length_cons,List.length_nil,List.length_singleton];omega)|(refine Nat.le_trans (ylc _ _) ?_;simp only[jl,List.length_cons,List.length_nil];omega))));first|done|fail):p:=h
theorem lx {p:Prop} (h:p:=by(exact lxx);first|done|fail):p:=h
set_option maxHeartbeats 1000000 in
set_option maxRecDepth 20000 in
theorem den (a0:Int) (a1:Int) (a2:Int) (hp0 : -9223372036854775808≤a0) (hp1:a0≤9223372036854775807) (hp2 : -9223372036854775808≤a2) (hp3:a2≤9223372036854775807):Den Tryz.prog 132 [.int .i64 a0,.int .i64 a1,.int .i64 a2] (.str (zve a0 a1 a2)):=by
 generalize hR:zve a0 a1 a2=r
 unfold zve at hR
 refine di Tryz.func132 Tryz.ntmps132 Tryz.results132 ?_
 intro c hL hc hk
 clear hL
 simp only[pars,Nat.zero_add]
 have l1:=ydc a0 hp0 hp1
 have l2:=y6j a1
 have l3:=ydc a2 hp2 hp3
 iterate 2 refine rS ?_
 refine AWP.ret ?_
 subst hR
 exact es
end N132
def D_zve : DF
 | [x0,x1,x2]=>some (.str (zve (rdI x0) (rdI x1) (rdI x2)),false,[wI .i64 x0,wI .i64 x1,wI .i64 x2,-9223372036854775808≤(rdI x0),(rdI x0)≤9223372036854775807,-9223372036854775808≤(rdI x2),(rdI x2)≤9223372036854775807])
 | _=>none
theorem yk1:OkD Tryz.prog 132 D_zve:=by unfold D_zve;exact dk N132.den
end Go.Ab
