/- A part of a proof: walks of functions and lemmas of our own. No conditions. -/
import Derived.Test.YtopoomikfjodkaaGreatDoorVAl
import Derived.Test.YtopoomikfjodkaaGreatDoorVAi
import Derived.Test.YtopoomikfjodkaaGreatDoorVBg
import Derived.Test.YtopoomikfjodkaaGreatDoorVAs
import Derived.Test.YtopoomikfjodkaaGreatDoorVAq
import Derived.Test.YtopoomikfjodkaaGreatDoorVAp
import Derived.Test.YtopoomikfjodkaaGreatDoorVAt
import Derived.Test.YtopoomikfjodkaaGreatDoorVAu
import Derived.Test.YtopoomikfjodkaaGreatDoorVBa
import Derived.Test.YtopoomikfjodkaaGreatDoorVAy
set_option linter.unusedSectionVars false
set_option linter.unusedVariables false
set_option linter.unusedSimpArgs false
set_option maxHeartbeats 1000000
namespace Go.Ab
open Go Go.Proofs
theorem ywg {a:List Aid} (h:zcb a=true):a.length≤24:=by
 unfold zcb at h
 split at h
 ·rename_i e he
  obtain⟨j,t,_,_,h3⟩:=y8c he
  simp only[y1h,Bool.cond_eq_ite]at h3
  split at h3
  ·cases h3;cases h
  ·cases h3
 ·have:=of_decide_eq_true h;omega
theorem y7j {a:List Aid} (h:zwb a=true):a.length≤24:=by
 unfold zwb at h
 split at h
 ·rename_i e he
  obtain⟨j,t,_,_,h3⟩:=y8c he
  simp only[yck,Bool.cond_eq_ite]at h3
  split at h3
  ·cases h3;cases h
  ·cases h3
 ·unfold zbc at h;have:=of_decide_eq_true h;omega
end Go.Ab

namespace Go.Ab
open Go Go.Proofs
def aidL (v:Aid):Prop:=v.Light.Colors.length<9223372036854775808∧v.Sectors.length<9223372036854775807
end Go.Ab


namespace Go.Ab
open Go Go.Proofs
theorem y8p (a b:Character):zje a b=zsg a b:=by
 unfold zje zsg
 rfl
theorem yku (a b:Aid):zog a b=zlf a b:=by
 unfold zog zlf
 rw[y8p]
 rfl
end Go.Ab

namespace Go.Ab
open Go Go.Proofs
def zgg (a0:Notice):Bool:=
 (bif (((!(zsc a0.Number)) || (!(zmc a0.Day))) || (!(zb a0.Kind 1 4)))then false else(bif (zqe a0)then((zed a0.Aid) && (a0.Target == 0))else((zog a0.Aid ({ Number:=0,Name:=[],At:={ X:=0,Y:=0:Point },Height:=0,Mark:={ Kind:=0,Colors:=[],Shape:=[],Topmark:=[]:Mark },Light:={ Kind:=0,Group:=[],Letter:=[],Colors:=[],Period:=0:Character },Sectors:=[],Intensity:=0:Aid })) && (zsc a0.Target))))
namespace N125
theorem DD:DOk Tryz.prog (Go.Ab.DD [(104,dP D_zed),(126,dP D_zqe),(181,dP D_zb),(209,dP D_zsc),(227,dP D_zmc),(62,dP D_zog)]):=ya y1l.e <| ya ylr.e <| ya yfc.e <| ya yol.e <| ya yjl.e <| ya y7z.e <| yd _
theorem dn:type_of% (And.intro @D_zed.eq_1 <| And.intro @D_zqe.eq_1 <| And.intro @D_zb.eq_1 <| And.intro @D_zsc.eq_1 <| And.intro @D_zmc.eq_1 <| @D_zog.eq_1):=by and_intros<;>intros<;>rfl
theorem ol:type_of% (@zb.eq_1):=@zb.eq_1
theorem den (a0:Notice) (hb0:bdNotice a0):Den Tryz.prog 125 [.agg (eNotice a0)] (.bool (zgg a0)):=by
 generalize hR:zgg a0=r
 unfold zgg at hR
 refine di Tryz.func125 Tryz.ntmps125 Tryz.results125 ?_
 intro c hL hc hk
 obtain⟨hL0,_⟩:=hL
 have hw0:bwNotice a0:=yeb a0 hL0
 clear hL0
 simp only[pars,Nat.zero_add]
 iterate 2 refine rS ?_
 refine AWP.cond rfl (fun hb => ?_) (fun hb => ?_)
 ·replace hR:=ct hR
  refine rS ?_
  refine AWP.ret ?_
  subst hR
  exact es
 ·replace hR:=cf hR
  refine rS ?_
  refine AWP.cond rfl (fun hb => ?_) (fun hb => ?_)
  ·replace hR:=ct hR
   refine rS ?_
   refine AWP.ret ?_
   subst hR
   exact es
  ·replace hR:=cf hR
   refine rS ?_
   refine AWP.ret ?_
   subst hR
   exact es
end N125
def D_zgg : DF
 | [x0]=>some (.bool (zgg (rdG y9 x0)),false,[wG eNotice y9 x0,bdNotice (rdG y9 x0)])
 | _=>none
theorem yez:OkD Tryz.prog 125 D_zgg:=by unfold D_zgg;exact dk N125.den
end Go.Ab

namespace Go.Ab
open Go Go.Proofs
def zpd (a0:Notice):Bool:=
 (bif ((!(ze a0.Number 1 9999)) || (!(zxd a0.Day)))then false else(bif (a0.Kind == 1)then((zt a0.Aid) && (a0.Target == 0))else(bif (a0.Kind == 2)then((zt a0.Aid) && (a0.Target == 0))else(bif (a0.Kind == 3)then((zlf a0.Aid ({ Number:=0,Name:=[],At:={ X:=0,Y:=0:Point },Height:=0,Mark:={ Kind:=0,Colors:=[],Shape:=[],Topmark:=[]:Mark },Light:={ Kind:=0,Group:=[],Letter:=[],Colors:=[],Period:=0:Character },Sectors:=[],Intensity:=0:Aid })) && (ze a0.Target 1 9999))else(bif (a0.Kind == 4)then((zlf a0.Aid ({ Number:=0,Name:=[],At:={ X:=0,Y:=0:Point },Height:=0,Mark:={ Kind:=0,Colors:=[],Shape:=[],Topmark:=[]:Mark },Light:={ Kind:=0,Group:=[],Letter:=[],Colors:=[],Period:=0:Character },Sectors:=[],Intensity:=0:Aid })) && (ze a0.Target 1 9999))else false)))))
namespace N123
theorem DD:DOk Tryz.prog (Go.Ab.DD [(170,dP D_ze),(223,dP D_zxd),(224,dP D_zlf),(98,dP D_zt)]):=ya yld.e <| ya y5r.e <| ya y91.e <| ya ygq.e <| yd _
theorem dn:type_of% (And.intro @D_ze.eq_1 <| And.intro @D_zxd.eq_1 <| And.intro @D_zlf.eq_1 <| @D_zt.eq_1):=by and_intros<;>intros<;>rfl
theorem ol:type_of% (@ze.eq_1):=@ze.eq_1
theorem den (a0:Notice) (hb0:bdNotice a0):Den Tryz.prog 123 [.ep (eNotice a0)] (.bool (zpd a0)):=by
 generalize hR:zpd a0=r
 unfold zpd at hR
 refine di Tryz.func123 Tryz.ntmps123 Tryz.results123 ?_
 intro c hL hc hk
 obtain⟨hL0,_⟩:=hL
 have hw0:bwNotice a0:=yeb a0 hL0
 clear hL0
 simp only[pars,Nat.zero_add]
 iterate 2 refine rS ?_
 refine AWP.cond rfl (fun hb => ?_) (fun hb => ?_)
 ·replace hR:=ct hR
  refine rS ?_
  refine AWP.ret ?_
  subst hR
  exact es
 ·replace hR:=cf hR
  iterate 3 refine rS ?_
  refine AWP.cond rfl (fun hb => ?_) (fun hb => ?_)
  ·replace hR:=ct hR
   refine AWP.skip ?_
   refine AWP.cond rfl (fun hb => ?_) (fun hb => ?_)
   ·refine rS ?_
    refine AWP.ret ?_
    subst hR
    exact es
   ·exfalso;simp_all
  ·replace hR:=cf hR
   refine rS ?_
   refine AWP.cond rfl (fun hb => ?_) (fun hb => ?_)
   ·replace hR:=ct hR
    refine rS ?_
    refine AWP.ret ?_
    subst hR
    exact es
   ·replace hR:=cf hR
    refine rS ?_
    refine AWP.cond rfl (fun hb => ?_) (fun hb => ?_)
    ·replace hR:=ct hR
     refine AWP.skip ?_
     refine AWP.cond rfl (fun hb => ?_) (fun hb => ?_)
     ·refine rS ?_
      refine AWP.ret ?_
      subst hR
      exact es
     ·exfalso;simp_all
    ·replace hR:=cf hR
     refine rS ?_
     refine AWP.cond rfl (fun hb => ?_) (fun hb => ?_)
     ·replace hR:=ct hR
      refine rS ?_
      refine AWP.ret ?_
      subst hR
      exact es
     ·replace hR:=cf hR
      refine rS ?_
      refine AWP.ret ?_
      subst hR
      exact es
end N123
def D_zpd : DF
 | [x0]=>some (.bool (zpd (rdP y9 x0)),false,[wP eNotice y9 x0,bdNotice (rdP y9 x0)])
 | _=>none
theorem yw1:OkD Tryz.prog 123 D_zpd:=by unfold D_zpd;exact dk N123.den
end Go.Ab

namespace Go.Ab
open Go Go.Proofs
theorem yvh (n:Notice) (h:aidL n.Aid):zgg n=zpd n:=by
 unfold zgg zpd zqe
 rw[yhc _ h.1 h.2]
 simp only[yku]
 have e1:zsc n.Number=ze n.Number 1 9999:=rfl
 have e2:zsc n.Target=ze n.Target 1 9999:=rfl
 have e3:zmc n.Day=zxd n.Day:=rfl
 have e4:zb n.Kind 1 4=((((n.Kind == 1) || (n.Kind == 2)) || (n.Kind == 3)) || (n.Kind == 4)):=by
  unfold zb
  apply Bool.eq_iff_iff.2
  simp only[Bool.and_eq_true,Bool.or_eq_true,decide_eq_true_eq,beq_iff_eq]
  omega
 rw[e1,e2,e3,e4]
 cases ze n.Number 1 9999<;>cases zxd n.Day<;>cases(n.Kind == 1)<;>cases(n.Kind == 2)<;>cases(n.Kind == 3)<;>cases(n.Kind == 4)<;>rfl
end Go.Ab
