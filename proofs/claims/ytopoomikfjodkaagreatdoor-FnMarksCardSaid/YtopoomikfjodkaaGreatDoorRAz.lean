/- A part of a proof: walks of functions and lemmas of our own. No conditions. -/
import Derived.Test.YtopoomikfjodkaaGreatDoorRAl
import Derived.Test.YtopoomikfjodkaaGreatDoorRAv
import Derived.Test.YtopoomikfjodkaaGreatDoorRAq
set_option linter.unusedSectionVars false
set_option linter.unusedVariables false
set_option linter.unusedSimpArgs false
set_option maxHeartbeats 1000000
namespace Go.Ab
open Go Go.Proofs
def ymz (a0:(List UInt8)) (a1:(List UInt8)) (a2:(List UInt8)) (s1:Int×List Int):Except (Sum ((List Int)) (Int×List Int)) (Int×List Int):=
 (bif decide (s1.1≤9)then(bif ((((a0 != []) && (a0 != (zfe s1.1))) || ((a1 != []) && (!(zae (zhc s1.1) a1)))) || ((a2 != []) && (a2 != (zge s1.1))))then .ok (IntKind.wrap .i64 (s1.1+1),s1.2)else .ok (IntKind.wrap .i64 (s1.1+1),s1.2++([s1.1]:List Int)))else .error (.inr (s1.1,s1.2)))
def zce (a0:(List UInt8)) (a1:(List UInt8)) (a2:(List UInt8)):(List Int):=
 (match y3 (ymz a0 a1 a2) (((10-(1:Int)).toNat)+1) (1,([]:List Int))with|.error (.inl e)=>e|.error (.inr s1)=>s1.2|.ok _=>default)
namespace N25
theorem DD:DOk Tryz.prog (Go.Ab.DD [(85,dP D_zfe),(86,dP D_zae),(87,dP D_zhc),(88,dP D_zge)]):=ya yti.e <| ya yvi.e <| ya yep.e <| ya y8h.e <| yc _
theorem DZ:DOk Tryz.prog (Go.Ab.DD [(85,dP D_zfe),(86,dP D_zae),(87,dP Dz_zhc),(88,dP D_zge)]):=ya yti.e <| ya yvi.e <| ya yft.e <| ya y8h.e <| yc _
theorem dn:type_of% (And.intro @D_zfe.eq_1 <| And.intro @D_zae.eq_1 <| And.intro @D_zhc.eq_1 <| And.intro @D_zge.eq_1 <| @Dz_zhc.eq_1):=by and_intros<;>intros<;>rfl
theorem den (a0:(List UInt8)) (a1:(List UInt8)) (a2:(List UInt8)) (hb0:a0.length<1099511627776) (hb1:a1.length<1099511627776) (hb2:a2.length<1099511627776):Den Tryz.prog 25 [.str a0,.str a1,.str a2] (ownL 2 1 yr (zce a0 a1 a2)):=by
 generalize hR:zce a0 a1 a2=r
 unfold zce at hR
 refine di Tryz.func25 Tryz.ntmps25 Tryz.results25 ?_
 intro c hL hc hk
 obtain⟨hL0,hL1,hL2,_⟩:=hL
 have hw0:a0.length<9223372036854775808:=Nat.lt_succ_of_le hL0
 have hw1:a1.length<9223372036854775808:=Nat.lt_succ_of_le hL1
 have hw2:a2.length<9223372036854775808:=Nat.lt_succ_of_le hL2
 clear hL0 hL1 hL2
 simp only[pars,Nat.zero_add]
 iterate 3 refine rS ?_
 refine AWP.block ?_
 generalize hz1:y3 (ymz a0 a1 a2) (((10-(1:Int)).toNat)+1) (1,([]:List Int))=z1 at hR
 refine AWP.whileW (ymz a0 a1 a2) (fun s1=>⟨[(0,.str a0),(1,.str a1),(2,.str a2),(7,.ref 0 1 0 s1.2.length),(8,.int .i64 s1.1)],[.arr 2 1 s1.2.length (fun j=>yr (s1.2.getD j default))]⟩) (fun s1=>1≤s1.1∧s1.1≤10∧s1.2.length+1≤(s1.1).toNat) (fun s1=>(10-s1.1).toNat) (((10-(1:Int)).toNat)+1) (1,([]:List Int)) [0] hz1 m0 wt sm ?_
 clear hz1
 intro s1 k1 hW1 hm1 hz1
 simp only[ymz]at hz1
 refine rS ?_
 refine AWP.cond rfl (fun hb => ?_) (fun hb => ?_)
 ·simp only[hb,cond_true]at hz1
  refine rT ?_
  refine AWP.cond rfl (fun hb => ?_) (fun hb => ?_)
  ·simp only[hb,cond_true]at hz1
   refine AWP.exit ?_
   refine yb ?_
   refine rS ?_
   exact⟨_,[0],ms,wt,hz1,sm⟩
  ·simp only[hb,cond_false]at hz1
   iterate 2 refine rS ?_
   exact⟨_,[2],ms,wt,hz1,sm⟩
 ·simp only[hb,cond_false]at hz1
  refine AWP.exit ?_
  refine yb ?_
  subst hz1;dsimp only at hR
  refine rS ?_
  refine AWP.ret ?_
  subst hR
  exact es
end N25
def D_zce : DF
 | [x0,x1,x2]=>some (ownL 2 1 yr (zce (rdS x0) (rdS x1) (rdS x2)),false,[wS x0,wS x1,wS x2,(rdS x0).length<1099511627776,(rdS x1).length<1099511627776,(rdS x2).length<1099511627776])
 | _=>none
def Dz_zce : DF
 | [x0,x1,x2]=>some (ownL 2 1 yr (zce (rdS x0) (rdS x1) (rdS x2)),true,[wS x0,wS x1,wS x2,(rdS x0).length<1099511627776,(rdS x1).length<1099511627776,(rdS x2).length<1099511627776])
 | _=>none
theorem ye4:OkD Tryz.prog 25 D_zce:=by unfold D_zce;exact dk N25.den
theorem y81:OkD Tryz.prog 25 Dz_zce:=by unfold Dz_zce;exact dk N25.den
end Go.Ab

namespace Go.Ab
open Go Go.Proofs
def zud (a0:Int):(Int×Int):=
 (bif (!(zjg a0))then(0,2)else(bif (decide (315≤a0) || decide (a0<45))then(3,0)else(bif decide (a0<135)then(4,0)else(bif decide (a0<225)then(5,0)else(6,0)))))
namespace N27
theorem DD:DOk Tryz.prog (Go.Ab.DD [(94,dP D_zjg)]):=ya yiz.e <| yc _
theorem dn:type_of% (@D_zjg.eq_1):=by and_intros<;>intros<;>rfl
theorem den (a0:Int)  : Den Tryz.prog 27 [.int .i64 a0] (.tup [.int .i64 ((zud a0).1),.int .i64 ((zud a0).2)]):=by
 generalize hR:zud a0=r
 unfold zud at hR
 refine di Tryz.func27 Tryz.ntmps27 Tryz.results27 ?_
 intro c hL hc hk
 clear hL
 simp only[pars,Nat.zero_add]
 iterate 2 refine rS ?_
 refine AWP.cond rfl (fun hb => ?_) (fun hb => ?_)
 ·replace hR:=ct hR
  refine rS ?_
  refine AWP.ret ?_
  subst hR
  exact es
 ·replace hR:=cf hR
  refine rS ?_
  refine AWP.cond rfl (fun hb => ?_) (fun hb => ?_)
  ·replace hR:=ct hR
   refine rS ?_
   refine AWP.ret ?_
   subst hR
   exact es
  ·replace hR:=cf hR
   refine rS ?_
   refine AWP.cond rfl (fun hb => ?_) (fun hb => ?_)
   ·replace hR:=ct hR
    refine rS ?_
    refine AWP.ret ?_
    subst hR
    exact es
   ·replace hR:=cf hR
    refine rS ?_
    refine AWP.cond rfl (fun hb => ?_) (fun hb => ?_)
    ·replace hR:=ct hR
     refine rS ?_
     refine AWP.ret ?_
     subst hR
     exact es
    ·replace hR:=cf hR
     refine rS ?_
     refine AWP.ret ?_
     subst hR
     exact es
end N27
def D_zud : DF
 | [x0]=>some (.tup [.int .i64 ((zud (rdI x0)).1),.int .i64 ((zud (rdI x0)).2)],false,[wI .i64 x0])
 | _=>none
theorem ybx:OkD Tryz.prog 27 D_zud:=by unfold D_zud;exact dk N27.den
end Go.Ab
