/- A part of a proof: walks of functions and lemmas of our own. No conditions. -/
import Derived.Test.YtopoomikfjodkaaGreatDoorVAl
import Derived.Test.YtopoomikfjodkaaGreatDoorVAp
set_option linter.unusedSectionVars false
set_option linter.unusedVariables false
set_option linter.unusedSimpArgs false
set_option maxHeartbeats 1000000
namespace Go.Ab
open Go Go.Proofs
def y3o (a0:Int) (s1:Int×List Int):Except (Sum ((List UInt8)) (Int×List Int)) (Int×List Int):=
 (bif (s1.1 != 0)then(bif decide ((s1.1.tmod 10)<0)then .ok (IntKind.wrap .i64 (s1.1.tdiv 10),s1.2++([IntKind.wrap .u8 (IntKind.wrap .i64 (48+(IntKind.wrap .i64 (0-(s1.1.tmod 10)))))]:List Int))else .ok (IntKind.wrap .i64 (s1.1.tdiv 10),s1.2++([IntKind.wrap .u8 (IntKind.wrap .i64 (48+(s1.1.tmod 10)))]:List Int)))else .error (.inr (s1.1,s1.2)))
def yiq (a0:Int) (s1:Int×List Int) (s2:Int×List Int):Except (Sum ((List UInt8)) (Int×List Int)) (Int×List Int):=
 (bif decide (0≤s2.1)then .ok (IntKind.wrap .i64 (s2.1-1),s2.2++([((s1.2++([45]:List Int)).getD ((s2.1).toNat) default)]:List Int))else .error (.inr (s2.1,s2.2)))
def ypq (a0:Int) (s1:Int×List Int) (s3:Int×List Int):Except (Sum ((List UInt8)) (Int×List Int)) (Int×List Int):=
 (bif decide (0≤s3.1)then .ok (IntKind.wrap .i64 (s3.1-1),s3.2++([(s1.2.getD ((s3.1).toNat) default)]:List Int))else .error (.inr (s3.1,s3.2)))
def za (a0:Int):(List UInt8):=
 (bif (a0 == 0)then[48]else(match ynb (y3o a0) (((a0).natAbs)+1) (a0,([]:List Int))with|.error (.inl e)=>e|.error (.inr s1)=>(bif decide (a0<0)then(match ynb (yiq a0 s1) ((((IntKind.wrap .i64 ((s1.2.length+1:Int)-1))+1).toNat)+1) (IntKind.wrap .i64 ((s1.2.length+1:Int)-1),([]:List Int))with|.error (.inl e)=>e|.error (.inr s2)=>(s2.2.map fun z=>UInt8.ofNat z.toNat)|.ok _=>default)else(match ynb (ypq a0 s1) ((((IntKind.wrap .i64 ((s1.2.length:Int)-1))+1).toNat)+1) (IntKind.wrap .i64 ((s1.2.length:Int)-1),([]:List Int))with|.error (.inl e)=>e|.error (.inr s3)=>(s3.2.map fun z=>UInt8.ofNat z.toNat)|.ok _=>default))|.ok _=>default))
namespace N166
theorem DD:DOk Tryz.prog (Go.Ab.DD []):=yd _
theorem den (a0:Int) (hp0 : -1000000000000≤a0) (hp1:a0≤1000000000000):Den Tryz.prog 166 [.int .i64 a0] (.str (za a0)):=by
 generalize hR:za a0=r
 unfold za at hR
 refine di Tryz.func166 Tryz.ntmps166 Tryz.results166 ?_
 intro c hL hc hk
 clear hL
 simp only[pars,Nat.zero_add]
 iterate 2 refine rS ?_
 refine AWP.cond rfl (fun hb => ?_) (fun hb => ?_)
 ·replace hR:=ct hR
  refine rS ?_
  refine AWP.ret ?_
  subst hR
  exact es
 ·replace hR:=cf hR
  iterate 2 refine rS ?_
  refine AWP.block ?_
  generalize hz1:ynb (y3o a0) (((a0).natAbs)+1) (a0,([]:List Int))=z1 at hR
  refine AWP.whileW (y3o a0) (fun s1=>⟨[(0,.int .i64 a0),(3,.ref 0 1 0 s1.2.length),(4,.int .i64 s1.1)],[.arr 5 1 s1.2.length (fun j=>eIu8 (s1.2.getD j default))]⟩) (fun s1 => -1000000000000≤s1.1∧s1.1≤1000000000000∧s1.2.length+(s1.1).natAbs≤1000000000000) (fun s1=>(s1.1).natAbs) (((a0).natAbs)+1) (a0,([]:List Int)) [0] hz1 m0 wt sm ?_
  clear hz1
  intro s1 k1 hW1 hm1 hz1
  simp only[y3o]at hz1
  refine rS ?_
  refine AWP.cond rfl (fun hb => ?_) (fun hb => ?_)
  ·simp only[hb,cond_true]at hz1
   iterate 2 refine rS ?_
   refine AWP.cond rfl (fun hb => ?_) (fun hb => ?_)
   ·simp only[hb,cond_true]at hz1
    iterate 3 refine rS ?_
    exact⟨_,[2],by(have h10:=y1j s1.1;simp only[ob,ln,ol]at *;omega),by(have h10:=y1j s1.1;refine⟨?_,?_,?_⟩<;>simp only[ob,ln,ol]at * <;> omega),hz1,sm⟩
   ·simp only[hb,cond_false]at hz1
    iterate 2 refine rS ?_
    exact⟨_,[2],by(have h10:=y1j s1.1;simp only[ob,ln,ol]at *;omega),by(have h10:=y1j s1.1;refine⟨?_,?_,?_⟩<;>simp only[ob,ln,ol]at * <;> omega),hz1,sm⟩
  ·simp only[hb,cond_false]at hz1
   refine AWP.exit ?_
   refine yb ?_
   subst hz1;dsimp only at hR
   refine rS ?_
   refine AWP.cond rfl (fun hb => ?_) (fun hb => ?_)
   ·replace hR:=ct hR
    iterate 3 refine rS ?_
    refine AWP.block ?_
    generalize hz2:ynb (yiq a0 (s1.1,s1.2)) ((((IntKind.wrap .i64 ((s1.2.length+1:Int)-1))+1).toNat)+1) (IntKind.wrap .i64 ((s1.2.length+1:Int)-1),([]:List Int))=z2 at hR
    refine AWP.whileW (yiq a0 (s1.1,s1.2)) (fun s2=>⟨[(3,.ref 0 1 0 (s1.2.length+1)),(6,.ref 1 1 0 s2.2.length),(7,.int .i64 s2.1)],[.arr 5 1 (s1.2++([45]:List Int)).length (fun j=>eIu8 ((s1.2++([45]:List Int)).getD j default)),.arr 5 1 s2.2.length (fun j=>eIu8 (s2.2.getD j default))]⟩) (fun s2 => -1≤s2.1∧s2.1≤s1.2.length∧s2.1≤1000000000000∧s2.2.length+(s2.1+1).toNat≤1000000000001) (fun s2=>(s2.1+1).toNat) ((((IntKind.wrap .i64 ((s1.2.length+1:Int)-1))+1).toNat)+1) (IntKind.wrap .i64 ((s1.2.length+1:Int)-1),([]:List Int)) [2,3] hz2 m0 wt sm ?_
    clear hz2
    intro s2 k2 hW2 hm2 hz2
    simp only[yiq]at hz2
    refine rS ?_
    refine AWP.cond rfl (fun hb => ?_) (fun hb => ?_)
    ·simp only[hb,cond_true]at hz2
     iterate 2 refine rS ?_
     exact⟨_,[0,3],ms,wt,hz2,sm⟩
    ·simp only[hb,cond_false]at hz2
     refine AWP.exit ?_
     refine yb ?_
     subst hz2;dsimp only at hR
     refine rS ?_
     refine AWP.ret ?_
     subst hR
     exact es
   ·replace hR:=cf hR
    iterate 2 refine rS ?_
    refine AWP.block ?_
    generalize hz3:ynb (ypq a0 (s1.1,s1.2)) ((((IntKind.wrap .i64 ((s1.2.length:Int)-1))+1).toNat)+1) (IntKind.wrap .i64 ((s1.2.length:Int)-1),([]:List Int))=z3 at hR
    refine AWP.whileW (ypq a0 (s1.1,s1.2)) (fun s3=>⟨[(3,.ref 0 1 0 s1.2.length),(6,.ref 1 1 0 s3.2.length),(7,.int .i64 s3.1)],[.arr 5 1 s1.2.length (fun j=>eIu8 (s1.2.getD j default)),.arr 5 1 s3.2.length (fun j=>eIu8 (s3.2.getD j default))]⟩) (fun s3 => -1≤s3.1∧s3.1<s1.2.length∧s3.1≤1000000000000∧s3.2.length+(s3.1+1).toNat≤1000000000001) (fun s3=>(s3.1+1).toNat) ((((IntKind.wrap .i64 ((s1.2.length:Int)-1))+1).toNat)+1) (IntKind.wrap .i64 ((s1.2.length:Int)-1),([]:List Int)) [0,1] hz3 m0 wt sm ?_
    clear hz3
    intro s3 k3 hW3 hm3 hz3
    simp only[ypq]at hz3
    refine rS ?_
    refine AWP.cond rfl (fun hb => ?_) (fun hb => ?_)
    ·simp only[hb,cond_true]at hz3
     iterate 2 refine rS ?_
     exact⟨_,[0,3],ms,wt,hz3,sm⟩
    ·simp only[hb,cond_false]at hz3
     refine AWP.exit ?_
     refine yb ?_
     subst hz3;dsimp only at hR
     refine rS ?_
     refine AWP.ret ?_
     subst hR
     exact es
end N166
def D_za : DF
 | [x0]=>some (.str (za (rdI x0)),false,[wI .i64 x0,-1000000000000≤(rdI x0),(rdI x0)≤1000000000000])
 | _=>none
theorem ytc:OkD Tryz.prog 166 D_za:=by unfold D_za;exact dk N166.den
end Go.Ab

namespace Go.Ab
open Go Go.Proofs
def zfg (a0:Int):Bool:=
 ((((a0.tmod 4) == 0) && ((a0.tmod 100) != 0)) || ((a0.tmod 400) == 0))
namespace N359
theorem DD:DOk Tryz.prog (Go.Ab.DD []):=yd _
theorem den (a0:Int)  : Den Tryz.prog 359 [.int .i64 a0] (.bool (zfg a0)):=by
 generalize hR:zfg a0=r
 unfold zfg at hR
 refine di Tryz.func359 Tryz.ntmps359 Tryz.results359 ?_
 intro c hL hc hk
 clear hL
 simp only[pars,Nat.zero_add]
 iterate 2 refine rS ?_
 refine AWP.ret ?_
 subst hR
 exact es
end N359
def D_zfg : DF
 | [x0]=>some (.bool (zfg (rdI x0)),false,[wI .i64 x0])
 | _=>none
theorem y40:OkD Tryz.prog 359 D_zfg:=by unfold D_zfg;exact dk N359.den
end Go.Ab

namespace Go.Ab
open Go Go.Proofs
def zqb (a0:Int) (a1:Int):Int:=
 (bif (a1 == 2)then(bif (zfg a0)then 29 else 28)else(bif (a1 == 4)then 30 else(bif (a1 == 6)then 30 else(bif (a1 == 9)then 30 else(bif (a1 == 11)then 30 else 31)))))
namespace N317
theorem DD:DOk Tryz.prog (Go.Ab.DD [(359,dP D_zfg)]):=ya y40.e <| yd _
theorem dn:type_of% (@D_zfg.eq_1):=by and_intros<;>intros<;>rfl
theorem den (a0:Int) (a1:Int)  : Den Tryz.prog 317 [.int .i64 a0,.int .i64 a1] (.int .i64 (zqb a0 a1)):=by
 generalize hR:zqb a0 a1=r
 unfold zqb at hR
 refine di Tryz.func317 Tryz.ntmps317 Tryz.results317 ?_
 intro c hL hc hk
 clear hL
 simp only[pars,Nat.zero_add]
 iterate 3 refine rS ?_
 refine AWP.cond rfl (fun hb => ?_) (fun hb => ?_)
 ·replace hR:=ct hR
  refine rS ?_
  refine AWP.cond rfl (fun hb => ?_) (fun hb => ?_)
  ·replace hR:=ct hR
   refine rS ?_
   refine AWP.ret ?_
   subst hR
   exact es
  ·replace hR:=cf hR
   refine rS ?_
   refine AWP.ret ?_
   subst hR
   exact es
 ·replace hR:=cf hR
  refine rS ?_
  refine AWP.cond rfl (fun hb => ?_) (fun hb => ?_)
  ·replace hR:=ct hR
   refine AWP.skip ?_
   refine AWP.cond rfl (fun hb => ?_) (fun hb => ?_)
   ·refine rS ?_
    refine AWP.ret ?_
    subst hR
    exact es
   ·exfalso;simp_all
  ·replace hR:=cf hR
   refine rS ?_
   refine AWP.cond rfl (fun hb => ?_) (fun hb => ?_)
   ·replace hR:=ct hR
    refine AWP.skip ?_
    refine AWP.cond rfl (fun hb => ?_) (fun hb => ?_)
    ·refine rS ?_
     refine AWP.ret ?_
     subst hR
     exact es
    ·exfalso;simp_all
   ·replace hR:=cf hR
    refine rS ?_
    refine AWP.cond rfl (fun hb => ?_) (fun hb => ?_)
    ·replace hR:=ct hR
     refine AWP.skip ?_
     refine AWP.cond rfl (fun hb => ?_) (fun hb => ?_)
     ·refine rS ?_
      refine AWP.ret ?_
      subst hR
      exact es
     ·exfalso;simp_all
    ·replace hR:=cf hR
     refine rS ?_
     refine AWP.cond rfl (fun hb => ?_) (fun hb => ?_)
     ·replace hR:=ct hR
      refine rS ?_
      refine AWP.ret ?_
      subst hR
      exact es
     ·replace hR:=cf hR
      refine rS ?_
      refine AWP.ret ?_
      subst hR
      exact es
end N317
def D_zqb : DF
 | [x0,x1]=>some (.int .i64 (zqb (rdI x0) (rdI x1)),false,[wI .i64 x0,wI .i64 x1])
 | _=>none
theorem yx1:OkD Tryz.prog 317 D_zqb:=by unfold D_zqb;exact dk N317.den
end Go.Ab

namespace Go.Ab
open Go Go.Proofs
theorem ybl (y m:Int):28≤zqb y m∧zqb y m≤31:=by
 unfold zqb
 cases zfg y<;>cases(m == 2)<;>cases(m == 4)<;>cases(m == 6)<;>cases(m == 9)<;>cases(m == 11)<;>simp
theorem ywr {y m:Int} (h1:1≤m) (h2:m≤12):zqb y m=mdD (yhb y) m.toNat:=by
 show zqb y m=mdD (zfg y) m.toNat
 unfold zqb
 rcases yjf h1 h2 with rfl|rfl|rfl|rfl|rfl|rfl|rfl|rfl|rfl|rfl|rfl|rfl<;>cases zfg y<;>rfl
end Go.Ab
