/- A part of a proof: walks of functions and lemmas of our own. No conditions. -/
import Derived.Test.YtopoomikfjodkaaGreatDoorVAl
import Derived.Test.YtopoomikfjodkaaGreatDoorVBj
import Derived.Test.YtopoomikfjodkaaGreatDoorVBi
import Derived.Test.YtopoomikfjodkaaGreatDoorVAp
set_option linter.unusedSectionVars false
set_option linter.unusedVariables false
set_option linter.unusedSimpArgs false
set_option maxHeartbeats 1000000
namespace Go.Ab
open Go Go.Proofs
def zeh (a0:Aid):Bool:=
 (bif decide ((zv a0 1048576)<0)then true else(bif ((znb (zo a0)) != (zqf (zo a0)))then false else(bif (!(zcc (zo a0) (zo a0)))then false else true)))
namespace N4
theorem DD:DOk Tryz.prog (Go.Ab.DD [(29,dP D_zv),(30,dP D_zqf),(31,dP D_zo),(32,dP D_znb),(33,dP D_zcc)]):=ya y0l.e <| ya yjr.e <| ya yop.e <| ya yzg.e <| ya yfi.e <| yd _
theorem DZ:DOk Tryz.prog (Go.Ab.DD [(29,dP D_zv),(30,dP D_zqf),(31,dP Dz_zo),(32,dP D_znb),(33,dP D_zcc)]):=ya y0l.e <| ya yjr.e <| ya yn0.e <| ya yzg.e <| ya yfi.e <| yd _
theorem dn:type_of% (And.intro @D_zv.eq_1 <| And.intro @D_zqf.eq_1 <| And.intro @D_zo.eq_1 <| And.intro @D_znb.eq_1 <| And.intro @D_zcc.eq_1 <| @Dz_zo.eq_1):=by and_intros<;>intros<;>rfl
theorem ol:type_of% (@ykm):=@ykm
theorem o1 {p:Prop} (h:p:=by(first|((try simp only[ol]);first|(have h9:=hG0 (by assumption);first|exact h9.2|exact h9.1|omega))|((try simp only[ol]);have h9:=(hG0 (by assumption)).2;first|exact h9.1|exact h9.2|exact h9.2.1.1|exact h9.2.1.2.1|exact h9.2.1.2.2|exact h9.2.2.1.1|exact h9.2.2.1.2.1|exact h9.2.2.1.2.2|exact h9.2.2.2.1|exact h9.2.2.2.2|omega)|((try simp only[ol]);have h9:=(hG0 (by assumption)).1;first|exact h9.1|omega));first|done|fail):p:=h
set_option maxHeartbeats 4000000 in
set_option maxRecDepth 20000 in
theorem _root_.Go.Ab.zeh_den (a0:Aid)  : Den Tryz.prog 4 [.agg (eAid a0)] (.bool (zeh a0)):=by
 generalize hR:zeh a0=r
 unfold zeh at hR
 refine di Tryz.func4 Tryz.ntmps4 Tryz.results4 ?_
 intro c hL hc hk
 obtain⟨hL0,_⟩:=hL
 have hw0:bwAid a0:=yy a0 hL0
 clear hL0
 simp only[pars,Nat.zero_add]
 have hf0:=ypi a0 (1048576) (by omega) (by omega) hw0
 have hG0:decide (zv a0 (1048576)<0)=false→yfp a0∧bdAid a0:=fun h=>⟨hf0.2.2 (of_decide_eq_false h),yki a0 (hf0.2.2 (of_decide_eq_false h))⟩
 iterate 4 refine rS ?_
 refine AWP.cond rfl (fun hb => ?_) (fun hb => ?_)
 ·replace hR:=ct hR
  refine rS ?_
  refine AWP.ret ?_
  subst hR
  exact es
 ·replace hR:=cf hR
  iterate 4 refine rS ?_
  refine AWP.cond rfl (fun hb => ?_) (fun hb => ?_)
  ·replace hR:=ct hR
   refine rS ?_
   refine AWP.ret ?_
   subst hR
   exact es
  ·replace hR:=cf hR
   refine rZ 3 ?_
   refine AWP.cond rfl (fun hb => ?_) (fun hb => ?_)
   ·replace hR:=ct hR
    refine rS ?_
    refine AWP.ret ?_
    subst hR
    exact es
   ·replace hR:=cf hR
    refine rS ?_
    refine AWP.ret ?_
    subst hR
    exact es
end N4
end Go.Ab

namespace Go.Ab
open Go Go.Proofs
theorem yzq (a0:Aid) (hf:bwAid a0):zeh a0=true:=by
 unfold zeh
 have f0:=ypi a0 1048576 (by omega) (by omega) hf
 by_cases c0:zv a0 1048576<0
 ·rw[decide_eq_true c0];rfl
 rw[decide_eq_false c0]
 have g0:=f0.2.2 c0
 simp only[ykm,y9p]
 rw[y8t a0 hf.2.2.1.2.2 (by have:=g0.2.2.2.1;omega)]
 simp
end Go.Ab
