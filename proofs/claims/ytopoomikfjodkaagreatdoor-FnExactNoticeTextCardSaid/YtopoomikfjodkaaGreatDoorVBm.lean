/- A part of a proof: walks of functions and lemmas of our own. No conditions. -/
import Derived.Test.YtopoomikfjodkaaGreatDoorVAt
import Derived.Test.YtopoomikfjodkaaGreatDoorVBb
import Derived.Test.YtopoomikfjodkaaGreatDoorVAl
import Derived.Test.YtopoomikfjodkaaGreatDoorVAz
import Derived.Test.YtopoomikfjodkaaGreatDoorVBg
import Derived.Test.YtopoomikfjodkaaGreatDoorVAv
import Derived.Test.YtopoomikfjodkaaGreatDoorVAs
set_option linter.unusedSectionVars false
set_option linter.unusedVariables false
set_option linter.unusedSimpArgs false
set_option maxHeartbeats 1000000
namespace Go.Ab
open Go Go.Proofs
theorem ye4 (a:Int) (h1:0≤a) (h2:a≤99999):∃ y m d,zh a=(y,m,d)∧zl a=(y,m,d)∧2000≤y∧y≤2273∧1≤m∧m≤12∧1≤d∧d≤31:=by
 obtain⟨y,m,d,e1,hy,hd⟩:=y03 a h1 h2
 obtain⟨y',m',d',e2,hd'⟩:=y64 a h1 h2
 obtain⟨rfl,rfl,rfl⟩:=hd.unique hd'
 have hm:=yxs (l:=yhb y) hd.2.1 hd.2.2.1
 exact⟨y,m,d,e1,e2,hd.1,hy,hd.2.1,hd.2.2.1,hd.2.2.2.1,by have:=hd.2.2.2.2.1;omega⟩
end Go.Ab

namespace Go.Ab
open Go Go.Proofs
def zqd (a0:Int):(List UInt8):=
 (bif decide (a0<10)then[48]++(za a0)else(za a0))
namespace N294
theorem DD:DOk Tryz.prog (Go.Ab.DD [(166,dP D_za)]):=ya ytc.e <| yd _
theorem dn:type_of% (@D_za.eq_1):=by and_intros<;>intros<;>rfl
theorem den (a0:Int) (hp0:0≤a0) (hp1:a0≤1000):Den Tryz.prog 294 [.int .i64 a0] (.str (zqd a0)):=by
 generalize hR:zqd a0=r
 unfold zqd at hR
 refine di Tryz.func294 Tryz.ntmps294 Tryz.results294 ?_
 intro c hL hc hk
 clear hL
 simp only[pars,Nat.zero_add]
 have l1:=y0b a0 (by omega) (by omega)
 iterate 2 refine rS ?_
 refine AWP.cond rfl (fun hb => ?_) (fun hb => ?_)
 ·replace hR:=ct hR
  refine rS ?_
  refine AWP.ret ?_
  subst hR
  exact es
 ·replace hR:=cf hR
  refine rS ?_
  refine AWP.ret ?_
  subst hR
  exact es
end N294
def D_zqd : DF
 | [x0]=>some (.str (zqd (rdI x0)),false,[wI .i64 x0,0≤(rdI x0),(rdI x0)≤1000])
 | _=>none
theorem ymy:OkD Tryz.prog 294 D_zqd:=by unfold D_zqd;exact dk N294.den
end Go.Ab

namespace Go.Ab
open Go Go.Proofs
theorem y7l (a:Int) (h1:0≤a) (h2:a≤1000):(zqd a).length≤2000:=by
 have hl:=y0b a (by omega) (by omega)
 unfold zqd
 cases decide (a<10)<;>simp<;>omega
end Go.Ab

namespace Go.Ab
open Go Go.Proofs
def zrb (a0:Int):(List UInt8):=
 ((((za ((zl a0).1))++[45])++(zqd ((zl a0).2.1)))++[45])++(zqd ((zl a0).2.2))
namespace N225
theorem DD:DOk Tryz.prog (Go.Ab.DD [(166,dP D_za),(293,dP D_zl),(294,dP D_zqd)]):=ya ytc.e <| ya yh4.e <| ya ymy.e <| yd _
theorem dn:type_of% (And.intro @D_za.eq_1 <| And.intro @D_zl.eq_1 <| @D_zqd.eq_1):=by and_intros<;>intros<;>rfl
theorem o0 {p:Prop} (h:p:=by(first|(have hr:=y12 a0 hp0 hp1;have l1:=y0b (zl a0).1 (by omega) (by omega);have l2:=y7l (zl a0).2.1 (by omega) (by omega);have l3:=y7l (zl a0).2.2 (by omega) (by omega);(try simp only[List.length_append,List.length_cons,List.length_nil]);omega));first|done|fail):p:=h
theorem den (a0:Int) (hp0:0≤a0) (hp1:a0≤99999):Den Tryz.prog 225 [.int .i64 a0] (.str (zrb a0)):=by
 generalize hR:zrb a0=r
 unfold zrb at hR
 refine di Tryz.func225 Tryz.ntmps225 Tryz.results225 ?_
 intro c hL hc hk
 clear hL
 simp only[pars,Nat.zero_add]
 iterate 3 refine rS ?_
 refine AWP.ret ?_
 subst hR
 exact es
end N225
def D_zrb : DF
 | [x0]=>some (.str (zrb (rdI x0)),false,[wI .i64 x0,0≤(rdI x0),(rdI x0)≤99999])
 | _=>none
theorem yjm:OkD Tryz.prog 225 D_zrb:=by unfold D_zrb;exact dk N225.den
end Go.Ab

namespace Go.Ab
open Go Go.Proofs
theorem ysx (a:Int) (h1:0≤a) (h2:a≤99999):(zrb a).length≤10000:=by
 have hr:=y12 a h1 h2
 have l1:=y0b (zl a).1 (by omega) (by omega)
 have l2:=y7l (zl a).2.1 (by omega) (by omega)
 have l3:=y7l (zl a).2.2 (by omega) (by omega)
 unfold zrb
 simp only[List.length_append,List.length_cons,List.length_nil]
 omega
end Go.Ab

namespace Go.Ab
open Go Go.Proofs
theorem ytu (n:Int) (h1:0≤n) (h2:n<100):(Go.Lib.itoa n).length=if n<10 then 1 else 2:=by
 unfold Go.Lib.itoa
 rw[if_neg (by omega),Go.Lib.decDigits]
 by_cases h:n<10
 ·rw[dif_pos (by omega),if_pos h];rfl
 ·rw[dif_neg (by omega),if_neg h,Go.Lib.decDigits,dif_pos (by omega)];rfl
theorem yhp (n:Int) (h1:0≤n) (h2:n<100):zob n 2=zqd n:=by
 unfold zob zqd
 have hl:=ytu n h1 h2
 rw[y1q,ycf n (by omega) (by omega)]
 by_cases h:n<10
 ·rw[if_pos h]at hl
  rw[hl]
  simp only[h,decide_true,cond_true]
  rfl
 ·rw[if_neg h]at hl
  rw[hl]
  simp only[h,decide_false,cond_false]
  rfl
theorem yej (a:Int) (h1:0≤a) (h2:a≤99999):zbb a=zrb a:=by
 obtain⟨y,m,d,e1,e2,hr⟩:=ye4 a h1 h2
 unfold zbb zrb zmc zb
 simp only[h1,h2,decide_true,Bool.and_self,Bool.not_true,cond_false,e1,e2]
 rw[y1q,ycf y (by omega) (by omega),yhp m (by omega) (by omega),yhp d (by omega) (by omega)]
end Go.Ab
