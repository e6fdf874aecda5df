/- A part of a proof: walks of functions and lemmas of our own. No conditions. -/
import Derived.Test.YtopoomikfjodkaaGreatDoorVBi
import Derived.Test.YtopoomikfjodkaaGreatDoorVBk
import Derived.Test.YtopoomikfjodkaaGreatDoorVBm
import Derived.Test.YtopoomikfjodkaaGreatDoorVAv
import Derived.Test.YtopoomikfjodkaaGreatDoorVAx
import Derived.Test.YtopoomikfjodkaaGreatDoorVBe
import Derived.Test.YtopoomikfjodkaaGreatDoorVAy
import Derived.Test.YtopoomikfjodkaaGreatDoorVBa
import Derived.Test.YtopoomikfjodkaaGreatDoorVBg
import Derived.Test.YtopoomikfjodkaaGreatDoorVAl
import Derived.Test.YtopoomikfjodkaaGreatDoorVAi
import Derived.Test.YtopoomikfjodkaaGreatDoorVBj
import Derived.Test.YtopoomikfjodkaaGreatDoorVAp
import Derived.Test.YtopoomikfjodkaaGreatDoorVAs
import Derived.Test.YtopoomikfjodkaaGreatDoorVAu
import Derived.Test.YtopoomikfjodkaaGreatDoorVAt
import Derived.Test.YtopoomikfjodkaaGreatDoorVAz
set_option linter.unusedSectionVars false
set_option linter.unusedVariables false
set_option linter.unusedSimpArgs false
set_option maxHeartbeats 1000000
namespace Go.Ab
open Go Go.Proofs
theorem yup {n:Notice} (h:zpd n=true):1≤n.Number∧n.Number≤9999∧0≤n.Day∧n.Day≤99999 ∧
  (((n.Kind=1∨n.Kind=2)∧zt n.Aid=true∧n.Target=0)∨((n.Kind=3∨n.Kind=4)∧zlf n.Aid default=true∧1≤n.Target∧n.Target≤9999)):=by
 unfold zpd at h
 cases hc:((!(ze n.Number 1 9999)) || (!(zxd n.Day)))with
 | true=>rw[hc]at h;cases h
 | false=>
  rw[hc,cond_false]at h
  simp only[Bool.or_eq_false_iff,Bool.not_eq_false',zxd,ze,Bool.and_eq_true,decide_eq_true_eq]at hc
  refine⟨hc.1.1,hc.1.2,hc.2.1,hc.2.2,?_⟩
  have e:({ Number:=0,Name:=[],At:={ X:=0,Y:=0:Point },Height:=0,Mark:={ Kind:=0,Colors:=[],Shape:=[],Topmark:=[]:Mark },Light:={ Kind:=0,Group:=[],Letter:=[],Colors:=[],Period:=0:Character },Sectors:=[],Intensity:=0:Aid })=default:=rfl
  rw[e]at h
  by_cases h1:n.Kind=1
  ·rw[show(n.Kind == 1)=true by simp[h1],cond_true,Bool.and_eq_true,beq_iff_eq]at h
   exact .inl ⟨.inl h1,h.1,h.2⟩
  rw[show(n.Kind == 1)=false by simp[h1],cond_false]at h
  by_cases h2:n.Kind=2
  ·rw[show(n.Kind == 2)=true by simp[h2],cond_true,Bool.and_eq_true,beq_iff_eq]at h
   exact .inl ⟨.inr h2,h.1,h.2⟩
  rw[show(n.Kind == 2)=false by simp[h2],cond_false]at h
  by_cases h3:n.Kind=3
  ·rw[show(n.Kind == 3)=true by simp[h3],cond_true,Bool.and_eq_true]at h
   simp only[ze,Bool.and_eq_true,decide_eq_true_eq]at h
   exact .inr ⟨.inl h3,h.1,h.2⟩
  rw[show(n.Kind == 3)=false by simp[h3],cond_false]at h
  by_cases h4:n.Kind=4
  ·rw[show(n.Kind == 4)=true by simp[h4],cond_true,Bool.and_eq_true]at h
   simp only[ze,Bool.and_eq_true,decide_eq_true_eq]at h
   exact .inr ⟨.inr h4,h.1,h.2⟩
  rw[show(n.Kind == 4)=false by simp[h4],cond_false]at h
  cases h
theorem ybv (k:Int):(zeg k).length≤100:=y8s _ _ (by decide)
theorem y71 (n:Nat):(zvc.getD n default).length≤100:=yrf _ (by decide) n
theorem yc0 {k:Int} (h:1≤k∧k≤4):zeg k=zvc.getD k.toNat default:=ybs _ _ (by omega) (by show k<5;omega)
theorem ye1 {n:Notice} (hb:bdNotice n) (h:(!zgg n)=false):zpd n=true:=by
 rw[← yvh n ⟨Nat.lt_of_lt_of_le hb.2.2.1.2.2 (by decide),Nat.lt_of_lt_of_le hb.2.2.2.1 (by decide)⟩];simpa using h
end Go.Ab

namespace Go.Ab
open Go Go.Proofs
def zac (a0:Notice):Notice:=
 { Number:=a0.Number,Day:=a0.Day,Kind:=a0.Kind,Target:=a0.Target,Aid:=zo a0.Aid:Notice }
namespace N45
theorem DD:DOk Tryz.prog (Go.Ab.DD [(31,dP D_zo)]):=ya yop.e <| yd _
theorem dn:type_of% (@D_zo.eq_1):=by and_intros<;>intros<;>rfl
theorem ol:type_of% (@ykm):=@ykm
theorem den (a0:Notice) (hb0:bdNotice a0):Den Tryz.prog 45 [.agg (eNotice a0)] (.agg (y3f (zac a0))):=by
 generalize hR:zac a0=r
 unfold zac at hR
 refine di Tryz.func45 Tryz.ntmps45 Tryz.results45 ?_
 intro c hL hc hk
 obtain⟨hL0,_⟩:=hL
 have hw0:bwNotice a0:=yeb a0 hL0
 clear hL0
 simp only[pars,Nat.zero_add]
 iterate 8 refine rS ?_
 refine AWP.ret ?_
 subst hR
 exact es
end N45
def D_zac : DF
 | [x0]=>some (.agg (y3f (zac (rdG y9 x0))),false,[wG eNotice y9 x0,bdNotice (rdG y9 x0)])
 | _=>none
def Dz_zac : DF
 | [x0]=>some (.agg (y3f (zac (rdG y9 x0))),true,[wG eNotice y9 x0,bdNotice (rdG y9 x0)])
 | _=>none
theorem y6y:OkD Tryz.prog 45 D_zac:=by unfold D_zac;exact dk N45.den
theorem yvv:OkD Tryz.prog 45 Dz_zac:=by unfold Dz_zac;exact dk N45.den
end Go.Ab

namespace Go.Ab
open Go Go.Proofs
theorem yfx (v:Notice):zac v=v:=by
 unfold zac
 simp only[ykm]
end Go.Ab

namespace Go.Ab
open Go Go.Proofs
def zte (a0:Notice) (a1:Notice):Bool:=
 (bif (a0.Number != a1.Number)then false else(bif (a0.Day != a1.Day)then false else(bif (a0.Kind != a1.Kind)then false else(bif (a0.Target != a1.Target)then false else(bif (!(zcc a0.Aid a1.Aid))then false else true)))))
namespace N47
theorem DD:DOk Tryz.prog (Go.Ab.DD [(33,dP D_zcc)]):=ya yfi.e <| yd _
theorem dn:type_of% (@D_zcc.eq_1):=by and_intros<;>intros<;>rfl
theorem den (a0:Notice) (a1:Notice)  : Den Tryz.prog 47 [.agg (eNotice a0),.agg (eNotice a1)] (.bool (zte a0 a1)):=by
 generalize hR:zte a0 a1=r
 unfold zte at hR
 refine di Tryz.func47 Tryz.ntmps47 Tryz.results47 ?_
 intro c hL hc hk
 obtain⟨hL0,hL1,_⟩:=hL
 have hw0:bwNotice a0:=yeb a0 hL0
 have hw1:bwNotice a1:=yeb a1 hL1
 clear hL0 hL1
 simp only[pars,Nat.zero_add]
 iterate 2 refine rS ?_
 refine AWP.cond rfl (fun hb => ?_) (fun hb => ?_)
 ·replace hR:=ct hR
  refine rS ?_
  refine AWP.ret ?_
  subst hR
  exact es
 ·replace hR:=cf hR
  refine rS ?_
  refine AWP.cond rfl (fun hb => ?_) (fun hb => ?_)
  ·replace hR:=ct hR
   refine rS ?_
   refine AWP.ret ?_
   subst hR
   exact es
  ·replace hR:=cf hR
   refine rS ?_
   refine AWP.cond rfl (fun hb => ?_) (fun hb => ?_)
   ·replace hR:=ct hR
    refine rS ?_
    refine AWP.ret ?_
    subst hR
    exact es
   ·replace hR:=cf hR
    refine rS ?_
    refine AWP.cond rfl (fun hb => ?_) (fun hb => ?_)
    ·replace hR:=ct hR
     refine rS ?_
     refine AWP.ret ?_
     subst hR
     exact es
    ·replace hR:=cf hR
     refine rS ?_
     refine AWP.cond rfl (fun hb => ?_) (fun hb => ?_)
     ·replace hR:=ct hR
      refine rS ?_
      refine AWP.ret ?_
      subst hR
      exact es
     ·replace hR:=cf hR
      refine rS ?_
      refine AWP.ret ?_
      subst hR
      exact es
end N47
def D_zte : DF
 | [x0,x1]=>some (.bool (zte (rdG y9 x0) (rdG y9 x1)),false,[wG eNotice y9 x0,wG eNotice y9 x1])
 | _=>none
theorem ykt:OkD Tryz.prog 47 D_zte:=by unfold D_zte;exact dk N47.den
end Go.Ab

namespace Go.Ab
open Go Go.Proofs
theorem y42 (a b:Notice):zte a b=decide (a=b):=by
 unfold zte
 simp only[y9p]
 by_cases h:a=b
 ·subst h;simp
 ·rw[decide_eq_false h]
  cases a;cases b
  simp only[Notice.mk.injEq]at h
  simp only[bne_iff_ne,Bool.cond_eq_ite,ite_eq_right_iff]
  (repeat' split)<;>simp_all
end Go.Ab

namespace Go.Ab
open Go Go.Proofs
def zkd (a0:Notice) (a1:Int):Int:=
 (bif decide ((zv a0.Aid a1)<0)then(-1)else(zv a0.Aid a1))
namespace N43
theorem DD:DOk Tryz.prog (Go.Ab.DD [(29,dP D_zv)]):=ya y0l.e <| yd _
theorem dn:type_of% (@D_zv.eq_1):=by and_intros<;>intros<;>rfl
theorem den (a0:Notice) (a1:Int)  : Den Tryz.prog 43 [.agg (eNotice a0),.int .i64 a1] (.int .i64 (zkd a0 a1)):=by
 generalize hR:zkd a0 a1=r
 unfold zkd at hR
 refine di Tryz.func43 Tryz.ntmps43 Tryz.results43 ?_
 intro c hL hc hk
 obtain⟨hL0,hL1,_⟩:=hL
 have hw0:bwNotice a0:=yeb a0 hL0
 clear hL0 hL1
 simp only[pars,Nat.zero_add]
 iterate 3 refine rS ?_
 refine AWP.cond rfl (fun hb => ?_) (fun hb => ?_)
 ·replace hR:=ct hR
  refine rS ?_
  refine AWP.ret ?_
  subst hR
  exact es
 ·replace hR:=cf hR
  refine rS ?_
  refine AWP.ret ?_
  subst hR
  exact es
end N43
def D_zkd : DF
 | [x0,x1]=>some (.int .i64 (zkd (rdG y9 x0) (rdI x1)),false,[wG eNotice y9 x0,wI .i64 x1])
 | _=>none
theorem yzs:OkD Tryz.prog 43 D_zkd:=by unfold D_zkd;exact dk N43.den
end Go.Ab

namespace Go.Ab
open Go Go.Proofs
theorem ydp (x:Notice) (n:Int) (h0 : -1≤n) (h1:n≤1048576) (hx:bwNotice x) : -1≤zkd x n∧zkd x n≤n∧(¬ zkd x n<0→y2l x):=by
 have b0:=hx
 unfold zkd
 have f0:=ypi x.Aid (n) (by omega) (by omega) b0
 by_cases c0:zv x.Aid (n)<0
 ·rw[decide_eq_true c0];exact⟨by simp,by simpa using h0,fun h=>absurd (by simp) h⟩
 rw[decide_eq_false c0]
 simp only[cond_false]
 exact⟨by omega,by omega,fun _=>f0.2.2 c0⟩
end Go.Ab

namespace Go.Ab
open Go Go.Proofs
def zzf (a0:Notice):(List UInt8):=
 (bif (!(zgg a0))then[]else(bif (zqe a0)then(zr [(zd a0.Number),(zbb a0.Day),(zeg a0.Kind),(znb a0.Aid)] [32])else(zr [(zd a0.Number),(zbb a0.Day),(zeg a0.Kind),(zd a0.Target)] [32])))
namespace N46
theorem DD:DOk Tryz.prog (Go.Ab.DD [(107,dP D_zd),(125,dP D_zgg),(126,dP D_zqe),(127,dP D_zbb),(128,dP D_zeg),(32,dP D_znb),(83,dP D_zr)]):=ya yjd.e <| ya yez.e <| ya ylr.e <| ya yur.e <| ya yk0.e <| ya yzg.e <| ya yjh.e <| yd _
theorem dn:type_of% (And.intro @D_zd.eq_1 <| And.intro @D_zgg.eq_1 <| And.intro @D_zqe.eq_1 <| And.intro @D_zbb.eq_1 <| And.intro @D_zeg.eq_1 <| And.intro @D_znb.eq_1 <| @D_zr.eq_1):=by and_intros<;>intros<;>rfl
theorem gr {p:Prop} (h:p:=by(grind [yvb,y6j]);first|done|fail):p:=h
theorem o0 {p:Prop} (h:p:=by(first|(have h9:=hn9 (by assumption);(repeat' with_reducible apply And.intro)<;>(first|omega|assumption|(simp only[List.length_append,List.length_cons,List.length_nil,List.length_singleton];omega)|(refine Nat.le_trans (ylc _ _) ?_;simp only[jl,List.length_cons,List.length_nil];omega))));first|done|fail):p:=h
theorem lx {p:Prop} (h:p:=by(exact lxx);first|done|fail):p:=h
set_option maxHeartbeats 1000000 in
set_option maxRecDepth 20000 in
theorem den (a0:Notice) (hb0:bdNotice a0):Den Tryz.prog 46 [.agg (eNotice a0)] (.str (zzf a0)):=by
 generalize hR:zzf a0=r
 unfold zzf at hR
 refine di Tryz.func46 Tryz.ntmps46 Tryz.results46 ?_
 intro c hL hc hk
 obtain⟨hL0,_⟩:=hL
 have hw0:bwNotice a0:=yeb a0 hL0
 clear hL0
 simp only[pars,Nat.zero_add]
 have hn9:=fun h=>yup (ye1 hb0 h)
 have l3:=ybv a0.Kind
 have l4:=y6d a0.Aid hb0
 have l5:=y6j a0.Day
 have l1:=yvb a0.Number
 have l2:=yvb a0.Target
 iterate 2 refine rS ?_
 refine AWP.cond rfl (fun hb => ?_) (fun hb => ?_)
 ·replace hR:=ct hR
  refine rS ?_
  refine AWP.ret ?_
  subst hR
  exact es
 ·replace hR:=cf hR
  iterate 2 refine rS ?_
  refine AWP.cond rfl (fun hb => ?_) (fun hb => ?_)
  ·replace hR:=ct hR
   refine rS ?_
   refine rD 10 ?_
   refine AWP.ret ?_
   subst hR
   exact es
  ·replace hR:=cf hR
   refine rD 10 ?_
   refine AWP.ret ?_
   subst hR
   exact es
end N46
def D_zzf : DF
 | [x0]=>some (.str (zzf (rdG y9 x0)),false,[wG eNotice y9 x0,bdNotice (rdG y9 x0)])
 | _=>none
theorem y4q:OkD Tryz.prog 46 D_zzf:=by unfold D_zzf;exact dk N46.den
end Go.Ab

namespace Go.Ab
open Go Go.Proofs
def zah (a0:Notice):(List UInt8):=
 (bif ((a0.Kind == 3) || (a0.Kind == 4))then((((((za a0.Number)++[32])++(zrb a0.Day))++[32])++((zvc ).getD ((a0.Kind).toNat) default))++[32])++(za a0.Target)else((((((za a0.Number)++[32])++(zrb a0.Day))++[32])++((zvc ).getD ((a0.Kind).toNat) default))++[32])++(zw a0.Aid))
namespace N124
theorem DD:DOk Tryz.prog (Go.Ab.DD [(166,dP D_za),(225,dP D_zrb),(226,dP D_zvc),(99,dP D_zw)]):=ya ytc.e <| ya yjm.e <| ya yqz.e <| ya yij.e <| yd _
theorem DZ:DOk Tryz.prog (Go.Ab.DD [(166,dP D_za),(225,dP D_zrb),(226,dP Dz_zvc),(99,dP D_zw)]):=ya ytc.e <| ya yjm.e <| ya ydw.e <| ya yij.e <| yd _
theorem dn:type_of% (And.intro @D_za.eq_1 <| And.intro @D_zrb.eq_1 <| And.intro @D_zvc.eq_1 <| And.intro @D_zw.eq_1 <| @Dz_zvc.eq_1):=by and_intros<;>intros<;>rfl
theorem o0 {p:Prop} (h:p:=by(first|(have q9 := ‹((a0.Kind == 3) || (a0.Kind == 4))=true›;have q8:a0.Kind=3∨a0.Kind=4:=(by simpa using q9);have l2:=y0b a0.Target (by omega) (by omega);(repeat' with_reducible apply And.intro)<;>first|omega|assumption|(simp only[List.length_append,List.length_cons,List.length_nil,List.length_singleton];omega))|(have q9 := ‹((a0.Kind == 3) || (a0.Kind == 4))=false›;have q8:zt a0.Aid=true:=(by rcases h9.2.2.2.2 with h|h;exact h.2.1;exfalso;rcases h.1 with e|e<;>rw[e]at q9<;>cases q9);have l2:=yce hb0 q8;(repeat' with_reducible apply And.intro)<;>first|omega|assumption|(simp only[List.length_append,List.length_cons,List.length_nil,List.length_singleton];omega))|((repeat' with_reducible apply And.intro)<;>(first|omega|assumption|(simp only[List.length_append,List.length_cons,List.length_nil,List.length_singleton];omega)|(refine Nat.le_trans (ylc _ _) ?_;simp only[jl,List.length_cons,List.length_nil];omega))));first|done|fail):p:=h
set_option maxHeartbeats 1000000 in
set_option maxRecDepth 20000 in
theorem den (a0:Notice) (hb0:bdNotice a0) (hp0:zpd a0=true):Den Tryz.prog 124 [.ep (eNotice a0)] (.str (zah a0)):=by
 generalize hR:zah a0=r
 unfold zah at hR
 refine di Tryz.func124 Tryz.ntmps124 Tryz.results124 ?_
 intro c hL hc hk
 obtain⟨hL0,_⟩:=hL
 have hw0:bwNotice a0:=yeb a0 hL0
 clear hL0
 simp only[pars,Nat.zero_add]
 have h9:=yup hp0
 have hn:=y71 a0.Kind.toNat
 have hn2:zvc.length=5:=rfl
 have l1:=y0b a0.Number (by omega) (by omega)
 have l3:=ysx a0.Day (by omega) (by omega)
 refine rS ?_
 refine rZ 22 ?_
 refine rS ?_
 refine AWP.cond rfl (fun hb => ?_) (fun hb => ?_)
 ·replace hR:=ct hR
  refine rS ?_
  refine AWP.ret ?_
  subst hR
  exact es
 ·replace hR:=cf hR
  refine rS ?_
  refine AWP.ret ?_
  subst hR
  exact es
end N124
def D_zah : DF
 | [x0]=>some (.str (zah (rdP y9 x0)),false,[wP eNotice y9 x0,bdNotice (rdP y9 x0),zpd (rdP y9 x0)=true])
 | _=>none
theorem yxx:OkD Tryz.prog 124 D_zah:=by unfold D_zah;exact dk N124.den
end Go.Ab

namespace Go.Ab
open Go Go.Proofs
def zag (a0:Notice):(List UInt8):=
 (bif (!(zpd a0))then[]else(zah a0))
namespace N44
theorem DD:DOk Tryz.prog (Go.Ab.DD [(123,dP D_zpd),(124,dP D_zah)]):=ya yw1.e <| ya yxx.e <| yd _
theorem dn:type_of% (And.intro @D_zpd.eq_1 <| @D_zah.eq_1):=by and_intros<;>intros<;>rfl
theorem o0 {p:Prop} (h:p:=by(first|(have q9 := ‹(!zpd a0)=false›;have q8:zpd a0=true:=(by simpa using q9);(repeat' with_reducible apply And.intro)<;>first|exact q8|assumption|omega));first|done|fail):p:=h
theorem den (a0:Notice) (hb0:bdNotice a0):Den Tryz.prog 44 [.agg (eNotice a0)] (.str (zag a0)):=by
 generalize hR:zag a0=r
 unfold zag at hR
 refine di Tryz.func44 Tryz.ntmps44 Tryz.results44 ?_
 intro c hL hc hk
 obtain⟨hL0,_⟩:=hL
 have hw0:bwNotice a0:=yeb a0 hL0
 clear hL0
 simp only[pars,Nat.zero_add]
 iterate 2 refine rS ?_
 refine AWP.cond rfl (fun hb => ?_) (fun hb => ?_)
 ·replace hR:=ct hR
  refine rS ?_
  refine AWP.ret ?_
  subst hR
  exact es
 ·replace hR:=cf hR
  refine rS ?_
  refine AWP.ret ?_
  subst hR
  exact es
end N44
def D_zag : DF
 | [x0]=>some (.str (zag (rdG y9 x0)),false,[wG eNotice y9 x0,bdNotice (rdG y9 x0)])
 | _=>none
theorem ynr:OkD Tryz.prog 44 D_zag:=by unfold D_zag;exact dk N44.den
end Go.Ab

namespace Go.Ab
open Go Go.Proofs
def zhh (a0:Notice):Bool:=
 (bif decide ((zkd a0 1048576)<0)then true else(bif ((zzf (zac a0)) != (zag (zac a0)))then false else(bif (!(zte (zac a0) (zac a0)))then false else true)))
namespace N6
theorem DD:DOk Tryz.prog (Go.Ab.DD [(43,dP D_zkd),(44,dP D_zag),(45,dP D_zac),(46,dP D_zzf),(47,dP D_zte)]):=ya yzs.e <| ya ynr.e <| ya y6y.e <| ya y4q.e <| ya ykt.e <| yd _
theorem DZ:DOk Tryz.prog (Go.Ab.DD [(43,dP D_zkd),(44,dP D_zag),(45,dP Dz_zac),(46,dP D_zzf),(47,dP D_zte)]):=ya yzs.e <| ya ynr.e <| ya yvv.e <| ya y4q.e <| ya ykt.e <| yd _
theorem dn:type_of% (And.intro @D_zkd.eq_1 <| And.intro @D_zag.eq_1 <| And.intro @D_zac.eq_1 <| And.intro @D_zzf.eq_1 <| And.intro @D_zte.eq_1 <| @Dz_zac.eq_1):=by and_intros<;>intros<;>rfl
theorem ol:type_of% (@yfx):=@yfx
theorem o1 {p:Prop} (h:p:=by(first|((try simp only[ol]);first|(have h9:=hG0 (by assumption);first|exact h9.2|exact h9.1|omega))|((try simp only[ol]);have h9:=(hG0 (by assumption)).2;first|exact h9.1|exact h9.2|exact h9.2.1.1|exact h9.2.1.2.1|exact h9.2.1.2.2|exact h9.2.2.1.1|exact h9.2.2.1.2.1|exact h9.2.2.1.2.2|exact h9.2.2.2.1|exact h9.2.2.2.2|omega)|((try simp only[ol]);have h9:=(hG0 (by assumption)).1;first|exact h9.1|omega));first|done|fail):p:=h
set_option maxHeartbeats 4000000 in
set_option maxRecDepth 20000 in
theorem _root_.Go.Ab.zhh_den (a0:Notice)  : Den Tryz.prog 6 [.agg (eNotice a0)] (.bool (zhh a0)):=by
 generalize hR:zhh a0=r
 unfold zhh at hR
 refine di Tryz.func6 Tryz.ntmps6 Tryz.results6 ?_
 intro c hL hc hk
 obtain⟨hL0,_⟩:=hL
 have hw0:bwNotice a0:=yeb a0 hL0
 clear hL0
 simp only[pars,Nat.zero_add]
 have hf0:=ydp a0 (1048576) (by omega) (by omega) hw0
 have hG0:decide (zkd a0 (1048576)<0)=false→y2l a0∧bdNotice a0:=fun h=>⟨hf0.2.2 (of_decide_eq_false h),yfq a0 (hf0.2.2 (of_decide_eq_false h))⟩
 iterate 4 refine rS ?_
 refine AWP.cond rfl (fun hb => ?_) (fun hb => ?_)
 ·replace hR:=ct hR
  refine rS ?_
  refine AWP.ret ?_
  subst hR
  exact es
 ·replace hR:=cf hR
  iterate 4 refine rS ?_
  refine AWP.cond rfl (fun hb => ?_) (fun hb => ?_)
  ·replace hR:=ct hR
   refine rS ?_
   refine AWP.ret ?_
   subst hR
   exact es
  ·replace hR:=cf hR
   refine rZ 3 ?_
   refine AWP.cond rfl (fun hb => ?_) (fun hb => ?_)
   ·replace hR:=ct hR
    refine rS ?_
    refine AWP.ret ?_
    subst hR
    exact es
   ·replace hR:=cf hR
    refine rS ?_
    refine AWP.ret ?_
    subst hR
    exact es
end N6
end Go.Ab

namespace Go.Ab
open Go Go.Proofs
theorem ylm (n:Notice) (hn:aidL n.Aid):zzf n=zag n:=by
 unfold zzf zag
 rw[yvh n hn]
 cases h:zpd n with
 | false=>rfl
 | true=>
  obtain⟨n1,n2,d1,d2,hk⟩:=yup h
  have e:∀ a b c d:List UInt8,zr [a,b,c,d] [32]=a++([32]++(b++([32]++(c++([32]++d))))):=fun a b c d=>yc3 a b c d [32]
  have hd:∀ m:Int,0≤m→m≤9999→zd m=za m:=fun m a b=>by rw[ycf m (by omega) (by omega)];rfl
  simp only[Bool.not_true,cond_false]
  unfold zah zqe
  rw[e,e,yej _ d1 d2,hd n.Number (by omega) (by omega),yc0 (by omega)]
  rcases hk with⟨hk,h1,_⟩|⟨hk,_,h2,h3⟩
  ·rw[show((n.Kind == 1) || (n.Kind == 2))=true by rcases hk with e|e<;>rw[e]<;>rfl,show((n.Kind == 3) || (n.Kind == 4))=false by rcases hk with e|e<;>rw[e]<;>rfl,(yae h1 hn.1).1]
   simp only[cond_true,cond_false,List.append_assoc]
  ·rw[show((n.Kind == 1) || (n.Kind == 2))=false by rcases hk with e|e<;>rw[e]<;>rfl,show((n.Kind == 3) || (n.Kind == 4))=true by rcases hk with e|e<;>rw[e]<;>rfl,hd n.Target (by omega) (by omega)]
   simp only[cond_true,cond_false,List.append_assoc]
theorem ygk (a0:Notice) (hf:bwNotice a0):zhh a0=true:=by
 unfold zhh
 have f0:=ydp a0 1048576 (by omega) (by omega) hf
 by_cases c0:zkd a0 1048576<0
 ·rw[decide_eq_true c0];rfl
 rw[decide_eq_false c0]
 have g0:=f0.2.2 c0
 simp only[yfx,y42]
 rw[ylm a0 ⟨hf.2.2.1.2.2,by have:=g0.2.2.2.1;omega⟩]
 simp
end Go.Ab
