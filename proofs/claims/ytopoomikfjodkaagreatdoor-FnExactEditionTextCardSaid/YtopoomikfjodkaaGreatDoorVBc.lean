/- A part of a proof: walks of functions and lemmas of our own. No conditions. -/
import Derived.Test.YtopoomikfjodkaaGreatDoorVAl
set_option linter.unusedSectionVars false
set_option linter.unusedVariables false
set_option linter.unusedSimpArgs false
set_option maxHeartbeats 1000000
namespace Go.Ab
open Go Go.Proofs
def y8i (a0:(List UInt8)) (a1:Int) (i1:Nat) (s1:Int) (i2:Nat) (s2:Int):Except (Int) (Int):=
 (bif decide (65535<(IntKind.wrap .i64 (s2 * 2 ^ (Min.min 1 (IntKind.bits .i64)))))then .ok (IntKind.wrap .i64 (BitVec.ofInt (IntKind.bits .i64) (IntKind.wrap .i64 (BitVec.ofInt (IntKind.bits .i64) (IntKind.wrap .i64 (s2 * 2 ^ (Min.min 1 (IntKind.bits .i64)))) &&& BitVec.ofInt (IntKind.bits .i64) 65535).toNat) ^^^ BitVec.ofInt (IntKind.bits .i64) 4129).toNat)else .ok (IntKind.wrap .i64 (s2 * 2 ^ (Min.min 1 (IntKind.bits .i64)))))
def yel (a0:(List UInt8)) (a1:Int) (i1:Nat) (s1:Int):Except (Int) (Int):=
 (match yf (y8i a0 a1 i1 s1) (8-0) 0 (IntKind.wrap .i64 (BitVec.ofInt (IntKind.bits .i64) s1 ^^^ BitVec.ofInt (IntKind.bits .i64) (IntKind.wrap .i64 ((IntKind.wrap .i64 ((a0.getD i1 0).toNat:Int)) * 2 ^ (Min.min 8 (IntKind.bits .i64))))).toNat)with|.error e=>.error e|.ok s2=>.ok s2)
def zfb (a0:(List UInt8)) (a1:Int):Int:=
 (match yf (yel a0 a1) (a0.length-0) 0 a1 with|.error e=>e|.ok s1=>s1)
namespace N167
theorem DD:DOk Tryz.prog (Go.Ab.DD []):=yd _
theorem den (a0:(List UInt8)) (a1:Int)  : Den Tryz.prog 167 [.str a0,.int .i64 a1] (.int .i64 (zfb a0 a1)):=by
 generalize hR:zfb a0 a1=r
 unfold zfb at hR
 refine di Tryz.func167 Tryz.ntmps167 Tryz.results167 ?_
 intro c hL hc hk
 obtain⟨hL0,hL1,_⟩:=hL
 have hw0:a0.length<9223372036854775808:=Nat.lt_succ_of_le hL0
 clear hL0 hL1
 simp only[pars,Nat.zero_add]
 iterate 2 refine rS ?_
 refine AWP.block ?_
 generalize hz1:yf (yel a0 a1) (a0.length-0) 0 a1=z1 at hR
 refine AWP.range (yel a0 a1) (fun i1 s1=>⟨[(0,.str a0),(1,.int .i64 s1),(5,.int .i64 (i1:Int))],[]⟩) (fun i1 s1=>True) (a0.length) 0 a1 [] hz1 ot wt sm ?_
 clear hz1
 intro i1 s1 hi1 hW1 hz1
 refine rS ?_
 refine AWP.cond rfl (fun hb => ?_) (fun hb => ?_)
 ·have hlt1:i1<a0.length:=ot
  rw[yh hlt1]at hz1;simp only[yel]at hz1
  iterate 2 refine rS ?_
  refine AWP.block ?_
  generalize hz2:yf (y8i a0 a1 i1 s1) (8-0) 0 (IntKind.wrap .i64 (BitVec.ofInt (IntKind.bits .i64) s1 ^^^ BitVec.ofInt (IntKind.bits .i64) (IntKind.wrap .i64 ((IntKind.wrap .i64 ((a0.getD i1 0).toNat:Int)) * 2 ^ (Min.min 8 (IntKind.bits .i64))))).toNat)=z2 at hz1
  refine AWP.range (y8i a0 a1 i1 s1) (fun i2 s2=>⟨[(0,.str a0),(1,.int .i64 s2),(5,.int .i64 (i1:Int)),(6,.int .i64 (i2:Int))],[]⟩) (fun i2 s2=>True) (8) 0 (IntKind.wrap .i64 (BitVec.ofInt (IntKind.bits .i64) s1 ^^^ BitVec.ofInt (IntKind.bits .i64) (IntKind.wrap .i64 ((IntKind.wrap .i64 ((a0.getD i1 0).toNat:Int)) * 2 ^ (Min.min 8 (IntKind.bits .i64))))).toNat) [] hz2 ot wt sm ?_
  clear hz2
  intro i2 s2 hi2 hW2 hz2
  refine rS ?_
  refine AWP.cond rfl (fun hb => ?_) (fun hb => ?_)
  ·have hlt2:i2<8:=ot
   rw[yh hlt2]at hz2;simp only[y8i]at hz2
   iterate 2 refine rS ?_
   refine AWP.cond rfl (fun hb => ?_) (fun hb => ?_)
   ·simp only[hb,cond_true]at hz2
    iterate 2 refine rS ?_
    exact⟨_,[],hlt2,wt,hz2,sm⟩
   ·simp only[hb,cond_false]at hz2
    refine rS ?_
    exact⟨_,[],hlt2,wt,hz2,sm⟩
  ·obtain rfl:i2=8:=ot
   rw[yi (Nat.le_refl _)]at hz2;subst hz2;dsimp only at hz1
   refine AWP.exit ?_;refine yb ?_
   refine rS ?_
   exact⟨_,[],hlt1,wt,hz1,sm⟩
 ·obtain rfl:i1=a0.length:=ot
  rw[yi (Nat.le_refl _)]at hz1;subst hz1;dsimp only at hR
  refine AWP.exit ?_;refine yb ?_
  refine rS ?_
  refine AWP.ret ?_
  subst hR
  exact es
end N167
def D_zfb : DF
 | [x0,x1]=>some (.int .i64 (zfb (rdS x0) (rdI x1)),false,[wS x0,wI .i64 x1])
 | _=>none
theorem yl1:OkD Tryz.prog 167 D_zfb:=by unfold D_zfb;exact dk N167.den
end Go.Ab
