/- A part of a proof: walks of functions and lemmas of our own. No conditions. -/
import Derived.Test.YtaneiddiakjgdaaGreatDoorWAl
import Derived.Test.YtaneiddiakjgdaaGreatDoorWAz
import Derived.Test.YtaneiddiakjgdaaGreatDoorWAs
import Derived.Test.YtaneiddiakjgdaaGreatDoorWBc
import Derived.Test.YtaneiddiakjgdaaGreatDoorWAw
import Derived.Test.YtaneiddiakjgdaaGreatDoorWAy
import Derived.Test.YtaneiddiakjgdaaGreatDoorWAp
import Derived.Test.YtaneiddiakjgdaaGreatDoorWAo
import Derived.Test.YtaneiddiakjgdaaGreatDoorWAk
import Derived.Test.YtaneiddiakjgdaaGreatDoorWAu
import Derived.Test.YtaneiddiakjgdaaGreatDoorWBa
import Derived.Test.YtaneiddiakjgdaaGreatDoorWAv
import Derived.Test.YtaneiddiakjgdaaGreatDoorWAn
import Derived.Test.YtaneiddiakjgdaaGreatDoorWBb
import Derived.Test.YtaneiddiakjgdaaGreatDoorWAi
set_option linter.unusedSectionVars false
set_option linter.unusedVariables false
set_option linter.unusedSimpArgs false
set_option maxHeartbeats 1000000
namespace Go.Ab
open Go Go.Proofs
def zag (a0:(List Aid)) (a1:(List Notice)) (a2:Int):Int:=
 (bif ((!(zp a0)) || (!(zy a1)))then 1 else(bif (!(zec a2))then 2 else 0))
namespace N117
theorem DD:DOk Tryz.prog (Go.Ab.DD [(72,dP D_zy),(73,dP D_zec),(79,dP D_zp)]):=ya ypq.e <| ya y5i.e <| ya y1k.e <| ye _
theorem dn:type_of% (And.intro @D_zy.eq_1 <| And.intro @D_zec.eq_1 <| @D_zp.eq_1):=by and_intros<;>intros<;>rfl
theorem gr {p:Prop} (h:p:=by(grind [y0i,yxc]);first|done|fail):p:=h
theorem den (a0:(List Aid)) (a1:(List Notice)) (a2:Int) (hb0:a0.length<1099511627776) (hb1:∀ v∈a0,bdAid v) (hb2:a1.length<1099511627776) (hb3:∀ v∈a1,bdNotice v):Den Tryz.prog 117 [encL 16 eAid a0,encL 20 eNotice a1,.int .i64 a2] (.int .i64 (zag a0 a1 a2)):=by
 generalize hR:zag a0 a1 a2=r
 unfold zag at hR
 refine di Tryz.func117 Tryz.ntmps117 Tryz.results117 ?_
 intro c hL hc hk
 obtain⟨hL0,hL1,hL2,_⟩:=hL
 have hw0:a0.length<9223372036854775808:=Nat.lt_succ_of_le (yb hL0).1
 have hw1:∀ v∈a0,bwAid v:=fun v hv=>yt v ((yb hL0).2 v hv)
 have hw2:a1.length<9223372036854775808:=Nat.lt_succ_of_le (yb hL1).1
 have hw3:∀ v∈a1,bwNotice v:=fun v hv=>yg v ((yb hL1).2 v hv)
 clear hL0 hL1 hL2
 simp only[pars,Nat.zero_add]
 iterate 2 refine rS ?_
 refine AWP.cond rfl (fun hb => ?_) (fun hb => ?_)
 ·replace hR:=ct hR
  refine rS ?_
  refine AWP.ret ?_
  subst hR
  exact es
 ·replace hR:=cf hR
  refine rS ?_
  refine AWP.cond rfl (fun hb => ?_) (fun hb => ?_)
  ·replace hR:=ct hR
   refine rS ?_
   refine AWP.ret ?_
   subst hR
   exact es
  ·replace hR:=cf hR
   refine rS ?_
   refine AWP.ret ?_
   subst hR
   exact es
end N117
def D_zag : DF
 | [x0,x1,x2]=>some (.int .i64 (zag (rdL dAid x0) (rdL yc x1) (rdI x2)),false,[wL 16 eAid dAid x0,wL 20 eNotice yc x1,wI .i64 x2,(rdL dAid x0).length<1099511627776,∀ v∈(rdL dAid x0),bdAid v,(rdL yc x1).length<1099511627776,∀ v∈(rdL yc x1),bdNotice v])
 | _=>none
theorem yzx:OkD Tryz.prog 117 D_zag:=by unfold D_zag;exact dk N117.den
end Go.Ab

namespace Go.Ab
open Go Go.Proofs
def zhc (a0:Notice) (a1:(List Aid)):((List Aid)×Int):=
 (bif (a0.Kind == 1)then((zvd a1 a0.Aid).1,(zvd a1 a0.Aid).2)else(bif (a0.Kind == 2)then((zfe a1 a0.Aid).1,(zfe a1 a0.Aid).2)else((zge a1 a0.Target).1,(zge a1 a0.Target).2)))
namespace N175
theorem DD:DOk Tryz.prog (Go.Ab.DD [(183,dP D_zfe),(184,dP D_zge),(34,dP D_zvd)]):=ya ymy.e <| ya y3x.e <| ya yzz.e <| ye _
theorem dn:type_of% (And.intro @D_zfe.eq_1 <| And.intro @D_zge.eq_1 <| @D_zvd.eq_1):=by and_intros<;>intros<;>rfl
theorem den (a0:Notice) (a1:(List Aid)) (hb0:bdNotice a0) (hb1:a1.length<1099511627776) (hb2:∀ v∈a1,bdAid v):Den Tryz.prog 175 [.agg (eNotice a0),encL 16 eAid a1] (.tup [ownL 63 16 ygb ((zhc a0 a1).1),.int .i64 ((zhc a0 a1).2)]):=by
 generalize hR:zhc a0 a1=r
 unfold zhc at hR
 refine di Tryz.func175 Tryz.ntmps175 Tryz.results175 ?_
 intro c hL hc hk
 obtain⟨hL0,hL1,_⟩:=hL
 have hw0:bwNotice a0:=yg a0 hL0
 have hw1:a1.length<9223372036854775808:=Nat.lt_succ_of_le (yb hL1).1
 have hw2:∀ v∈a1,bwAid v:=fun v hv=>yt v ((yb hL1).2 v hv)
 clear hL0 hL1
 simp only[pars,Nat.zero_add]
 iterate 3 refine rS ?_
 refine AWP.cond rfl (fun hb => ?_) (fun hb => ?_)
 ·replace hR:=ct hR
  refine rS ?_
  refine AWP.ret ?_
  subst hR
  exact es
 ·replace hR:=cf hR
  refine rS ?_
  refine AWP.cond rfl (fun hb => ?_) (fun hb => ?_)
  ·replace hR:=ct hR
   refine rS ?_
   refine AWP.ret ?_
   subst hR
   exact es
  ·replace hR:=cf hR
   refine rS ?_
   refine AWP.ret ?_
   subst hR
   exact es
end N175
def D_zhc : DF
 | [x0,x1]=>some (.tup [ownL 63 16 ygb ((zhc (rdG yc x0) (rdL dAid x1)).1),.int .i64 ((zhc (rdG yc x0) (rdL dAid x1)).2)],false,[wG eNotice yc x0,wL 16 eAid dAid x1,bdNotice (rdG yc x0),(rdL dAid x1).length<1099511627776,∀ v∈(rdL dAid x1),bdAid v])
 | _=>none
theorem y6z:OkD Tryz.prog 175 D_zhc:=by unfold D_zhc;exact dk N175.den
end Go.Ab

namespace Go.Ab
open Go Go.Proofs
theorem yt2 (P:Aid→Prop) (l:List Aid) (a:Aid) (hl:l.length<9223372036854775807) (hv:∀ v∈l,P v) (ha:P a):(∀ v∈(zob l a).1,P v)∧(zob l a).1.length≤l.length+1:=by
 rw[yck l a (by omega)]
 cases(decide (upto l a.Number<l.length) && ((l.getD (upto l a.Number) default).Number == a.Number))with
 | true=>exact⟨fun v hv=>by simp at hv,by simp⟩
 | false=>
  simp only[cond_false]
  cases((l.length:Int) == 24)with
  | true=>exact⟨fun v hv=>by simp at hv,by simp⟩
  | false=>
   simp only[cond_false,putA]
   refine⟨fun v h => ?_,by simp;omega⟩
   simp only[List.mem_append,List.mem_singleton]at h
   rcases h with(h|h)|h
   ·exact hv v (List.mem_of_mem_take h)
   ·subst h;exact ha
   ·exact hv v (List.mem_of_mem_drop h)
theorem yxv {α:Type} (P:α→Prop) (l:List α) (i:Nat) (a:α) (hv:∀ v∈l,P v) (ha:P a):∀ v∈l.set i a,P v:=fun v h=>by
 rcases List.mem_or_eq_of_mem_set h with h|h
 ·exact hv v h
 ·subst h;exact ha
theorem ym0 (P:Aid→Prop) (l:List Aid) (a:Aid) (hv:∀ v∈l,P v) (ha:P a):(∀ v∈(zod l a).1,P v)∧(zod l a).1.length≤l.length:=by
 unfold zod
 cases decide ((zq l a.Number)<0)with
 | true=>exact⟨fun v hv=>by simp at hv,by simp⟩
 | false=>
  simp only[cond_false,yeb,yge]
  exact⟨yxv P _ _ _ hv ha,by simp⟩
theorem ywy (P:Aid→Prop) (l:List Aid) (n:Int) (hl:l.length<9223372036854775807) (hv:∀ v∈l,P v):(∀ v∈(zpd l n).1,P v)∧(zpd l n).1.length≤l.length:=by
 unfold zpd
 have hf:=yew l n
 cases hd:decide ((zq l n)<0)with
 | true=>exact⟨fun v hv=>by simp at hv,by simp⟩
 | false=>
  have hd:=of_decide_eq_false hd
  have hw:IntKind.wrap .i64 (zq l n+1)=zq l n+1:=by rw[IntKind.wrap_i64];omega
  simp only[cond_false,yeb,hw]
  rw[ykf l _ (by omega),yxg l _ (by omega)]
  refine⟨fun v h => ?_,by simp;omega⟩
  rcases List.mem_append.1 h with h|h
  ·exact hv v (List.mem_of_mem_take h)
  ·exact hv v (List.mem_of_mem_drop h)
theorem yly (P:Aid→Prop) (l:List Aid) (a:Aid) (hl:l.length<9223372036854775807) (hv:∀ v∈l,P v) (ha:P a):(∀ v∈(zvd l a).1,P v)∧(zvd l a).1.length≤25:=by
 unfold zvd
 cases hb:((!(zp l)) || (!(zvb a)))with
 | true=>exact⟨fun v hv=>by simp at hv,by simp⟩
 | false=>
  have hn:=yxc (a:=l) (by rw[Bool.or_eq_false_iff]at hb;simpa using hb.1)
  simp only[cond_false,ycb,ykd]
  cases(zh l a.Number).2 with
  | true=>exact⟨fun v hv=>by simp at hv,by simp⟩
  | false=>
   simp only[cond_false]
   cases((l.length:Int) == 24)with
   | true=>exact⟨fun v hv=>by simp at hv,by simp⟩
   | false=>
    simp only[cond_false,zff]
    refine⟨fun v h => ?_,by simp;omega⟩
    simp only[List.mem_append,List.mem_singleton]at h
    rcases h with(h|h)|h
    ·exact hv v (List.mem_of_mem_take h)
    ·subst h;exact ha
    ·exact hv v (List.mem_of_mem_drop h)
theorem ygx (P:Aid→Prop) (l:List Aid) (a:Aid) (hv:∀ v∈l,P v) (ha:P a):(∀ v∈(zfe l a).1,P v)∧(zfe l a).1.length≤25:=by
 unfold zfe
 cases hb:((!(zp l)) || (!(zvb a)))with
 | true=>exact⟨fun v hv=>by simp at hv,by simp⟩
 | false=>
  have hn:=yxc (a:=l) (by rw[Bool.or_eq_false_iff]at hb;simpa using hb.1)
  simp only[cond_false,ycb,ykd]
  cases(!(zh l a.Number).2)with
  | true=>exact⟨fun v hv=>by simp at hv,by simp⟩
  | false=>
   simp only[cond_false]
   exact⟨yxv P _ _ _ hv ha,by simp;omega⟩
theorem yww (P:Aid→Prop) (l:List Aid) (n:Int) (hl:l.length<9223372036854775807) (hv:∀ v∈l,P v):(∀ v∈(zge l n).1,P v)∧(zge l n).1.length≤25:=by
 unfold zge
 cases hb:(!(zp l))with
 | true=>exact⟨fun v hv=>by simp at hv,by simp⟩
 | false=>
  have hn:=yxc (a:=l) (by simpa using hb)
  simp only[cond_false,ycb]
  have hf:=y2q l n (by omega)
  have hw:IntKind.wrap .i64 ((zh l n).1+1)=(zh l n).1+1:=by rw[IntKind.wrap_i64];omega
  cases(!(zh l n).2)with
  | true=>exact⟨fun v hv=>by simp at hv,by simp⟩
  | false=>
   simp only[cond_false,zgf,hw]
   refine⟨fun v h => ?_,by simp;omega⟩
   rcases List.mem_append.1 h with h|h
   ·exact hv v (List.mem_of_mem_take h)
   ·exact hv v (List.mem_of_mem_drop h)
end Go.Ab

namespace Go.Ab
open Go Go.Proofs
theorem yf3 (P:Aid→Prop) (l:List Aid) (n:Notice) (hl:l.length<9223372036854775807) (hv:∀ v∈l,P v) (ha:P n.Aid):(∀ v∈(zhc n l).1,P v)∧(zhc n l).1.length≤25:=by
 unfold zhc
 cases(n.Kind == 1)with
 | true=>exact yly P l _ hl hv ha
 | false=>
  cases(n.Kind == 2)with
  | true=>exact ygx P l n.Aid hv ha
  | false=>exact yww P l n.Target hl hv
end Go.Ab

namespace Go.Ab
open Go Go.Proofs
def ylo (a0:(List Aid)) (a1:(List Notice)) (a2:Int) (i1:Nat) (s1:List Aid):Except (((List Aid)×Int×Int)) (List Aid):=
 (bif (((zhc ((zr a1 a2).getD i1 default) s1).2) != 0)then .error ([],((zr a1 a2).getD i1 default).Number,(zhc ((zr a1 a2).getD i1 default) s1).2)else .ok ((zhc ((zr a1 a2).getD i1 default) s1).1))
def zsc (a0:(List Aid)) (a1:(List Notice)) (a2:Int):((List Aid)×Int×Int):=
 (match yh (ylo a0 a1 a2) (((zr a1 a2).length)-0) 0 (zx a0)with|.error e=>e|.ok s1=>(s1,0,0))
namespace N118
theorem DD:DOk Tryz.prog (Go.Ab.DD [(175,dP D_zhc),(74,dP D_zr),(96,dP D_zx)]):=ya y6z.e <| ya y22.e <| ya yim.e <| ye _
theorem dn:type_of% (And.intro @D_zhc.eq_1 <| And.intro @D_zr.eq_1 <| @D_zx.eq_1):=by and_intros<;>intros<;>rfl
theorem ol:type_of% (@ycb):=@ycb
theorem gr {p:Prop} (h:p:=by(grind [yrk]);first|done|fail):p:=h
theorem den (a0:(List Aid)) (a1:(List Notice)) (a2:Int) (hb0:a0.length<1099511627776) (hb1:∀ v∈a0,bdAid v) (hb2:a1.length<1099511627776) (hb3:∀ v∈a1,bdNotice v) (hp0:a0.length≤1048576) (hp1:a1.length≤1048576):Den Tryz.prog 118 [encL 16 eAid a0,encL 20 eNotice a1,.int .i64 a2] (.tup [ownL 63 16 ygb ((zsc a0 a1 a2).1),.int .i64 ((zsc a0 a1 a2).2.1),.int .i64 ((zsc a0 a1 a2).2.2)]):=by
 generalize hR:zsc a0 a1 a2=r
 unfold zsc at hR
 refine di Tryz.func118 Tryz.ntmps118 Tryz.results118 ?_
 intro c hL hc hk
 obtain⟨hL0,hL1,hL2,_⟩:=hL
 have hw0:a0.length<9223372036854775808:=Nat.lt_succ_of_le (yb hL0).1
 have hw1:∀ v∈a0,bwAid v:=fun v hv=>yt v ((yb hL0).2 v hv)
 have hw2:a1.length<9223372036854775808:=Nat.lt_succ_of_le (yb hL1).1
 have hw3:∀ v∈a1,bwNotice v:=fun v hv=>yg v ((yb hL1).2 v hv)
 clear hL0 hL1 hL2
 simp only[pars,Nat.zero_add]
 have hfl:=yrk a1 a2
 have hfa:=(ysk bdNotice a1 a2 (by assumption)).2
 iterate 3 refine rS ?_
 refine AWP.block ?_
 generalize hz1:yh (ylo a0 a1 a2) (((zr a1 a2).length)-0) 0 (zx a0)=z1 at hR
 refine AWP.range (ylo a0 a1 a2) (fun i1 s1=>⟨[(9,.ref 0 16 0 s1.length),(18,.ref 1 20 0 ((zr a1 a2).length)),(19,.int .i64 ((zr a1 a2).length:Int)),(20,.int .i64 (i1:Int))],[.arr 63 16 s1.length (fun j=>ygb (s1.getD j default)),.arr 90 20 (zr a1 a2).length (fun j=>eNotice ((zr a1 a2).getD j default))]⟩) (fun i1 s1=>(∀ v∈s1,bdAid v)∧s1.length≤1048576) (((zr a1 a2).length)) 0 (zx a0) [0,1] hz1 ot (by(simp only[ycb,yeb];exact⟨by assumption,by omega⟩)) sm ?_
 clear hz1
 intro i1 s1 hi1 hW1 hz1
 have hV1:=hW1;obtain⟨hV1_0,hV1_1⟩:=hV1
 refine rS ?_
 refine AWP.seq ?_
 refine AWP.cond rfl (fun hb => ?_) (fun hb => ?_)
 ·have hlt1:i1<((zr a1 a2).length):=ot
  rw[yj hlt1]at hz1;simp only[ylo]at hz1
  iterate 3 refine rS ?_
  refine AWP.cond rfl (fun hb => ?_) (fun hb => ?_)
  ·simp only[hb,cond_true]at hz1
   refine AWP.seq ?_
   refine AWP.regP mixed G_ok DD hc 5 [0,1,2] (.alt 3 [] [0,1,2] (.alt 4 [] [2] .leaf .stop) .stop) (by kernel_rfl) (by kernel_rfl) (by kernel_rfl) (fun K hK => ?_);simp only[yqi,runN,runP,yrc,nthO,ea,absV,absVL,cput,gv,sv,dn,reduceCtorEq,reduceIte,Nat.reduceBEq,Nat.reduceAdd,Nat.reduceEqDiff,Nat.reduceLT,Nat.reduceLeDiff,Nat.reduceMul,Nat.reduceSub,BEq.rfl,beq_self_eq_true,Int.reduceToNat]
   repeat' apply And.intro
   all_goals first|refine hK _ ?_|exact ot
   all_goals clear hK K
   refine AWP.ret ?_
   subst hz1
   dsimp only at hR
   subst hR
   exact es
  ·simp only[hb,cond_false]at hz1
   iterate 2 refine rS ?_
   exact⟨_,[3,1],hlt1,by(have h9:=yf3 bdAid s1 ((zr a1 a2).getD i1 default) (by have h1:=hW1.2;omega) hW1.1 (yfd (p:=bdNotice) (by assumption) (by decide) i1);exact⟨h9.1,by have h1:=hW1.2;have h2:=h9.2;omega⟩),hz1,sm⟩
 ·obtain rfl:i1=((zr a1 a2).length):=ot
  rw[yi (Nat.le_refl _)]at hz1;subst hz1;dsimp only at hR
  refine AWP.exit ?_;refine yd ?_
  refine rS ?_
  refine AWP.ret ?_
  subst hR
  exact es
end N118
def D_zsc : DF
 | [x0,x1,x2]=>some (.tup [ownL 63 16 ygb ((zsc (rdL dAid x0) (rdL yc x1) (rdI x2)).1),.int .i64 ((zsc (rdL dAid x0) (rdL yc x1) (rdI x2)).2.1),.int .i64 ((zsc (rdL dAid x0) (rdL yc x1) (rdI x2)).2.2)],false,[wL 16 eAid dAid x0,wL 20 eNotice yc x1,wI .i64 x2,(rdL dAid x0).length<1099511627776,∀ v∈(rdL dAid x0),bdAid v,(rdL yc x1).length<1099511627776,∀ v∈(rdL yc x1),bdNotice v,(rdL dAid x0).length≤1048576,(rdL yc x1).length≤1048576])
 | _=>none
theorem y8y:OkD Tryz.prog 118 D_zsc:=by unfold D_zsc;exact dk N118.den
end Go.Ab

namespace Go.Ab
open Go Go.Proofs
def zse (a0:(List Aid)) (a1:(List Notice)) (a2:Int):((List Aid)×Int):=
 (bif ((zag a0 a1 a2) != 0)then([],(zag a0 a1 a2))else((zsc a0 a1 a2).1,(zsc a0 a1 a2).2.2))
namespace N44
theorem DD:DOk Tryz.prog (Go.Ab.DD [(117,dP D_zag),(118,dP D_zsc)]):=ya yzx.e <| ya y8y.e <| ye _
theorem dn:type_of% (And.intro @D_zag.eq_1 <| @D_zsc.eq_1):=by and_intros<;>intros<;>rfl
theorem den (a0:(List Aid)) (a1:(List Notice)) (a2:Int) (hb0:a0.length<1099511627776) (hb1:∀ v∈a0,bdAid v) (hb2:a1.length<1099511627776) (hb3:∀ v∈a1,bdNotice v) (hp0:a0.length≤1048576) (hp1:a1.length≤1048576):Den Tryz.prog 44 [encL 16 eAid a0,encL 20 eNotice a1,.int .i64 a2] (.tup [ownL 63 16 ygb ((zse a0 a1 a2).1),.int .i64 ((zse a0 a1 a2).2)]):=by
 generalize hR:zse a0 a1 a2=r
 unfold zse at hR
 refine di Tryz.func44 Tryz.ntmps44 Tryz.results44 ?_
 intro c hL hc hk
 obtain⟨hL0,hL1,hL2,_⟩:=hL
 have hw0:a0.length<9223372036854775808:=Nat.lt_succ_of_le (yb hL0).1
 have hw1:∀ v∈a0,bwAid v:=fun v hv=>yt v ((yb hL0).2 v hv)
 have hw2:a1.length<9223372036854775808:=Nat.lt_succ_of_le (yb hL1).1
 have hw3:∀ v∈a1,bwNotice v:=fun v hv=>yg v ((yb hL1).2 v hv)
 clear hL0 hL1 hL2
 simp only[pars,Nat.zero_add]
 iterate 3 refine rS ?_
 refine AWP.cond rfl (fun hb => ?_) (fun hb => ?_)
 ·replace hR:=ct hR
  refine rS ?_
  refine AWP.ret ?_
  subst hR
  exact es
 ·replace hR:=cf hR
  iterate 2 refine rS ?_
  refine AWP.ret ?_
  subst hR
  exact es
end N44
def D_zse : DF
 | [x0,x1,x2]=>some (.tup [ownL 63 16 ygb ((zse (rdL dAid x0) (rdL yc x1) (rdI x2)).1),.int .i64 ((zse (rdL dAid x0) (rdL yc x1) (rdI x2)).2)],false,[wL 16 eAid dAid x0,wL 20 eNotice yc x1,wI .i64 x2,(rdL dAid x0).length<1099511627776,∀ v∈(rdL dAid x0),bdAid v,(rdL yc x1).length<1099511627776,∀ v∈(rdL yc x1),bdNotice v,(rdL dAid x0).length≤1048576,(rdL yc x1).length≤1048576])
 | _=>none
theorem ycy:OkD Tryz.prog 44 D_zse:=by unfold D_zse;exact dk N44.den
end Go.Ab


namespace Go.Ab
open Go Go.Proofs
def zjh (a0:(List Aid)) (a1:(List Notice)) (a2:Int):Int:=
 (bif ((!(zkb a0)) || (!(zu a1)))then 1 else(bif (!(znb a2))then 2 else 0))
end Go.Ab

namespace Go.Ab
open Go Go.Proofs
def zv (a0:(List Aid)) (a1:Notice):((List Aid)×Int):=
 (bif (a1.Kind == 1)then((zob a0 a1.Aid).1,(zob a0 a1.Aid).2)else(bif (a1.Kind == 2)then((zod a0 a1.Aid).1,(zod a0 a1.Aid).2)else((zpd a0 a1.Target).1,(zpd a0 a1.Target).2)))
namespace N180
theorem DD:DOk Tryz.prog (Go.Ab.DD [(216,dP D_zod),(217,dP D_zpd),(88,dP D_zob)]):=ya ya0.e <| ya yoy.e <| ya yn0.e <| ye _
theorem dn:type_of% (And.intro @D_zod.eq_1 <| And.intro @D_zpd.eq_1 <| @D_zob.eq_1):=by and_intros<;>intros<;>rfl
theorem den (a0:(List Aid)) (a1:Notice) (hb0:a0.length<1099511627776) (hb1:∀ v∈a0,bdAid v) (hb2:bdNotice a1) (hp0:a0.length≤1073741824):Den Tryz.prog 180 [encL 16 eAid a0,.ep (eNotice a1)] (.tup [ownL 63 16 ygb ((zv a0 a1).1),.int .i64 ((zv a0 a1).2)]):=by
 generalize hR:zv a0 a1=r
 unfold zv at hR
 refine di Tryz.func180 Tryz.ntmps180 Tryz.results180 ?_
 intro c hL hc hk
 obtain⟨hL0,hL1,_⟩:=hL
 have hw0:a0.length<9223372036854775808:=Nat.lt_succ_of_le (yb hL0).1
 have hw1:∀ v∈a0,bwAid v:=fun v hv=>yt v ((yb hL0).2 v hv)
 have hw2:bwNotice a1:=yg a1 hL1
 clear hL0 hL1
 simp only[pars,Nat.zero_add]
 iterate 3 refine rS ?_
 refine AWP.cond rfl (fun hb => ?_) (fun hb => ?_)
 ·replace hR:=ct hR
  refine rS ?_
  refine AWP.ret ?_
  subst hR
  exact es
 ·replace hR:=cf hR
  refine rS ?_
  refine AWP.cond rfl (fun hb => ?_) (fun hb => ?_)
  ·replace hR:=ct hR
   refine rS ?_
   refine AWP.ret ?_
   subst hR
   exact es
  ·replace hR:=cf hR
   refine rS ?_
   refine AWP.ret ?_
   subst hR
   exact es
end N180
def D_zv : DF
 | [x0,x1]=>some (.tup [ownL 63 16 ygb ((zv (rdL dAid x0) (rdP yc x1)).1),.int .i64 ((zv (rdL dAid x0) (rdP yc x1)).2)],false,[wL 16 eAid dAid x0,wP eNotice yc x1,(rdL dAid x0).length<1099511627776,∀ v∈(rdL dAid x0),bdAid v,bdNotice (rdP yc x1),(rdL dAid x0).length≤1073741824])
 | _=>none
theorem yh3:OkD Tryz.prog 180 D_zv:=by unfold D_zv;exact dk N180.den
end Go.Ab

namespace Go.Ab
open Go Go.Proofs
theorem yy1 (P:Aid→Prop) (l:List Aid) (n:Notice) (hl:l.length<9223372036854775807) (hv:∀ v∈l,P v) (ha:P n.Aid):(∀ v∈(zv l n).1,P v)∧(zv l n).1.length≤l.length+1:=by
 unfold zv
 cases(n.Kind == 1)with
 | true=>exact yt2 P l _ hl hv ha
 | false=>
  cases(n.Kind == 2)with
  | true=>have:=ym0 P l n.Aid hv ha;exact⟨this.1,Nat.le_succ_of_le this.2⟩
  | false=>have:=ywy P l n.Target hl hv;exact⟨this.1,Nat.le_succ_of_le this.2⟩
end Go.Ab

namespace Go.Ab
open Go Go.Proofs
def y1l (a0:(List Aid)) (a1:(List Notice)) (a2:Int) (i1:Nat) (s1:List Aid):Except (((List Aid)×Int×Int)) (List Aid):=
 (bif (!(zmg a1 (i1:Int) a2))then .ok s1 else(bif (((zv s1 (a1.getD i1 default)).2) != 0)then .error ([],(a1.getD i1 default).Number,(zv s1 (a1.getD i1 default)).2)else .ok ((zv s1 (a1.getD i1 default)).1)))
def zab (a0:(List Aid)) (a1:(List Notice)) (a2:Int):((List Aid)×Int×Int):=
 (match yh (y1l a0 a1 a2) (a1.length-0) 0 (zt a0)with|.error e=>e|.ok s1=>(s1,0,0))
namespace N129
theorem DD:DOk Tryz.prog (Go.Ab.DD [(155,dP D_zt),(180,dP D_zv),(71,dP D_zmg)]):=ya yom.e <| ya yh3.e <| ya y5y.e <| ye _
theorem dn:type_of% (And.intro @D_zt.eq_1 <| And.intro @D_zv.eq_1 <| @D_zmg.eq_1):=by and_intros<;>intros<;>rfl
theorem ol:type_of% (@yeb):=@yeb
theorem den (a0:(List Aid)) (a1:(List Notice)) (a2:Int) (hb0:a0.length<1099511627776) (hb1:∀ v∈a0,bdAid v) (hb2:a1.length<1099511627776) (hb3:∀ v∈a1,bdNotice v) (hp0:a0.length≤1048576) (hp1:a1.length≤1048576):Den Tryz.prog 129 [encL 16 eAid a0,encL 20 eNotice a1,.int .i64 a2] (.tup [ownL 63 16 ygb ((zab a0 a1 a2).1),.int .i64 ((zab a0 a1 a2).2.1),.int .i64 ((zab a0 a1 a2).2.2)]):=by
 generalize hR:zab a0 a1 a2=r
 unfold zab at hR
 refine di Tryz.func129 Tryz.ntmps129 Tryz.results129 ?_
 intro c hL hc hk
 obtain⟨hL0,hL1,hL2,_⟩:=hL
 have hw0:a0.length<9223372036854775808:=Nat.lt_succ_of_le (yb hL0).1
 have hw1:∀ v∈a0,bwAid v:=fun v hv=>yt v ((yb hL0).2 v hv)
 have hw2:a1.length<9223372036854775808:=Nat.lt_succ_of_le (yb hL1).1
 have hw3:∀ v∈a1,bwNotice v:=fun v hv=>yg v ((yb hL1).2 v hv)
 clear hL0 hL1 hL2
 simp only[pars,Nat.zero_add]
 iterate 3 refine rS ?_
 refine AWP.block ?_
 generalize hz1:yh (y1l a0 a1 a2) (a1.length-0) 0 (zt a0)=z1 at hR
 refine AWP.range (y1l a0 a1 a2) (fun i1 s1=>⟨[(1,encL 20 eNotice a1),(2,.int .i64 a2),(9,.ref 0 16 0 s1.length),(10,.int .i64 (i1:Int))],[.arr 63 16 s1.length (fun j=>ygb (s1.getD j default))]⟩) (fun i1 s1=>(∀ v∈s1,bdAid v)∧s1.length≤a0.length+i1) (a1.length) 0 (zt a0) [0] hz1 ot (by(simp only[ycb,yeb];exact⟨by assumption,by omega⟩)) sm ?_
 clear hz1
 intro i1 s1 hi1 hW1 hz1
 have hV1:=hW1;obtain⟨hV1_0,hV1_1⟩:=hV1
 refine rS ?_
 refine AWP.cond rfl (fun hb => ?_) (fun hb => ?_)
 ·have hlt1:i1<a1.length:=ot
  rw[yj hlt1]at hz1;simp only[y1l]at hz1
  refine rS ?_
  refine AWP.cond rfl (fun hb => ?_) (fun hb => ?_)
  ·simp only[hb,cond_true]at hz1
   refine AWP.exit ?_
   refine yd ?_
   refine rS ?_
   exact⟨_,[0],hlt1,by(first|exact⟨hW1.1,by have h1:=hW1.2;omega⟩|(have h9:=yy1 bdAid s1 (a1.getD i1 default) (by have h1:=hW1.2;omega) hW1.1 (yfd (p:=bdNotice) (by assumption) (by decide) i1);exact⟨h9.1,by have h1:=hW1.2;have h2:=h9.2;omega⟩)),hz1,sm⟩
  ·simp only[hb,cond_false]at hz1
   iterate 2 refine rS ?_
   refine AWP.cond rfl (fun hb => ?_) (fun hb => ?_)
   ·simp only[hb,cond_true]at hz1
    refine AWP.seq ?_
    refine AWP.regP mixed G_ok DD hc 8 [0,1,2,3,4,5] (.alt 6 [] [0,1,2,3,4,5] (.alt 7 [] [5] .leaf .stop) .stop) (by kernel_rfl) (by kernel_rfl) (by kernel_rfl) (fun K hK => ?_);simp only[yqi,runN,runP,yrc,nthO,ea,absV,absVL,cput,gv,sv,dn,reduceCtorEq,reduceIte,Nat.reduceBEq,Nat.reduceAdd,Nat.reduceEqDiff,Nat.reduceLT,Nat.reduceLeDiff,Nat.reduceMul,Nat.reduceSub,BEq.rfl,beq_self_eq_true,Int.reduceToNat]
    repeat' apply And.intro
    all_goals first|refine hK _ ?_|exact ot
    all_goals clear hK K
    refine AWP.ret ?_
    subst hz1
    dsimp only at hR
    subst hR
    exact es
   ·simp only[hb,cond_false]at hz1
    iterate 2 refine rS ?_
    exact⟨_,[1],hlt1,by(first|exact⟨hW1.1,by have h1:=hW1.2;omega⟩|(have h9:=yy1 bdAid s1 (a1.getD i1 default) (by have h1:=hW1.2;omega) hW1.1 (yfd (p:=bdNotice) (by assumption) (by decide) i1);exact⟨h9.1,by have h1:=hW1.2;have h2:=h9.2;omega⟩)),hz1,sm⟩
 ·obtain rfl:i1=a1.length:=ot
  rw[yi (Nat.le_refl _)]at hz1;subst hz1;dsimp only at hR
  refine AWP.exit ?_;refine yd ?_
  refine rS ?_
  refine AWP.ret ?_
  subst hR
  exact es
end N129
def D_zab : DF
 | [x0,x1,x2]=>some (.tup [ownL 63 16 ygb ((zab (rdL dAid x0) (rdL yc x1) (rdI x2)).1),.int .i64 ((zab (rdL dAid x0) (rdL yc x1) (rdI x2)).2.1),.int .i64 ((zab (rdL dAid x0) (rdL yc x1) (rdI x2)).2.2)],false,[wL 16 eAid dAid x0,wL 20 eNotice yc x1,wI .i64 x2,(rdL dAid x0).length<1099511627776,∀ v∈(rdL dAid x0),bdAid v,(rdL yc x1).length<1099511627776,∀ v∈(rdL yc x1),bdNotice v,(rdL dAid x0).length≤1048576,(rdL yc x1).length≤1048576])
 | _=>none
theorem y1y:OkD Tryz.prog 129 D_zab:=by unfold D_zab;exact dk N129.den
end Go.Ab



namespace Go.Ab
open Go Go.Proofs
theorem y4w {n:Notice} (h:zpb n=true) (hk:(n.Kind == 1)=true∨(n.Kind == 2)=true):zwb n.Aid=true:=by
 unfold zpb at h
 cases h1:((!(zd n.Number 1 9999)) || (!(znb n.Day)))with
 | true=>rw[h1]at h;cases h
 | false=>
  rw[h1,cond_false]at h
  cases h2:(n.Kind == 1)with
  | true=>rw[h2,cond_true,Bool.and_eq_true]at h;exact h.1
  | false=>
   rw[h2,cond_false]at h
   cases h3:(n.Kind == 2)with
   | true=>rw[h3,cond_true,Bool.and_eq_true]at h;exact h.1
   | false=>rw[h2,h3]at hk;simp at hk
theorem ynv (P:Aid→Prop) (hP:∀ v,P v→aidL v) (n:Notice) (s:List Aid) (hs:okP P s) (hn:zpb n=true) (ha:P n.Aid) :
  zhc n s=zv s n∧((zv s n).2=0→okP P (zv s n).1):=by
 unfold zhc zv
 have hv:∀ v∈s,aidL v:=fun v h=>hP v (hs.2 v h)
 cases h1:(n.Kind == 1)with
 | true=>
  simp only[cond_true]
  have ho:=y4w hn (.inl h1)
  rw[y3u s n.Aid hs.1 hv (hP _ ha) ho]
  exact⟨rfl,fun h=>y92 P hs ⟨ho,ha⟩ (Prod.ext rfl h)⟩
 | false=>
  simp only[cond_false]
  cases h2:(n.Kind == 2)with
  | true=>
   simp only[cond_true]
   have ho:=y4w hn (.inr h2)
   rw[yvu s n.Aid hs.1 hv (hP _ ha) ho]
   exact⟨rfl,fun h=>y60 P hs ⟨ho,ha⟩ (Prod.ext rfl h)⟩
  | false=>
   simp only[cond_false]
   rw[yyu s n.Target hs.1 hv]
   exact⟨rfl,fun h=>yd1 P hs (Prod.ext rfl h)⟩
theorem y1u (P:Aid→Prop) (hP:∀ v,P v→aidL v) (e:List Aid) (l:List Notice) (d:Int) (he:okP P e) (hl:∀ n∈l,zpb n=true) (ha:∀ n∈l,P n.Aid) :
  zsc e l d=zab e l d∧((zab e l d).2.2=0→okP P (zab e l d).1)∧((zab e l d).2.2≠0→(zab e l d).1=[]):=by
 unfold zsc zab
 rw[ycb,yeb]
 rw[yig (zr l d) (ylo e l d) (fun n s=>bif (((zhc n s).2) != 0)then .error ([],n.Number,(zhc n s).2)else .ok ((zhc n s).1)) e (fun i s _=>rfl)]
 rw[ysu,ygf]
 rw[yig l (y1l e l d) (fun n s=>bif inF l d n then(bif (((zv s n).2) != 0)then .error ([],n.Number,(zv s n).2)else .ok ((zv s n).1))else .ok s) e (fun i s _=>by
  simp only[y1l,yry]
  cases inF l d (l.getD i default)<;>rfl)]
 obtain ⟨h1, h2⟩ := yam (ρ := List Aid × Int × Int) (okP P) (fun n s => bif inF l d n then (bif (((zhc n s).2) != 0) then .error ([], n.Number, (zhc n s).2) else .ok ((zhc n s).1)) else .ok s)
  (fun n s=>bif inF l d n then(bif (((zv s n).2) != 0)then .error ([],n.Number,(zv s n).2)else .ok ((zv s n).1))else .ok s) l e he (fun n hn s hs=>by
   obtain⟨g1,g2⟩:=ynv P hP n s hs (hl n hn) (ha n hn)
   rw[g1]
   refine⟨rfl,fun t ht => ?_⟩
   cases hf:inF l d n with
   | false=>
    simp only[hf,cond_false,Except.ok.injEq]at ht
    subst ht;exact hs
   | true=>
    simp only[hf,cond_true]at ht
    cases hz:((zv s n).2 != 0)with
    | true=>rw[hz]at ht;cases ht
    | false=>
     rw[hz]at ht
     simp only[cond_false,Except.ok.injEq]at ht
     subst ht
     exact g2 (by simpa using hz))
 rw[h1]
 have herr:∀ (r:List Notice) (s:List Aid) (x:List Aid×Int×Int),yae (ρ:=List Aid×Int×Int) (fun n s=>bif inF l d n then(bif (((zv s n).2) != 0)then .error ([],n.Number,(zv s n).2)else .ok ((zv s n).1))else .ok s) r s=.error x→x.1=[]∧x.2.2≠0:=by
  intro r
  induction r with
  | nil=>intro s x h;simp[yae]at h
  | cons n r ih=>
   intro s x h
   simp only[yae]at h
   cases hf:inF l d n with
   | false=>simp only[hf,cond_false]at h;exact ih _ _ h
   | true=>
    simp only[hf,cond_true]at h
    cases hz:((zv s n).2 != 0)with
    | true=>
     simp only[hz,cond_true,Except.error.injEq]at h
     subst h
     exact⟨rfl,by simpa using hz⟩
    | false=>simp only[hz,cond_false]at h;exact ih _ _ h
 cases hc:yae (ρ:=List Aid×Int×Int) (fun n s=>bif inF l d n then(bif (((zv s n).2) != 0)then .error ([],n.Number,(zv s n).2)else .ok ((zv s n).1))else .ok s) l e with
 | error x=>
  obtain⟨g1,g2⟩:=herr l e x hc
  exact⟨rfl,fun h=>absurd h g2,fun _=>g1⟩
 | ok t=>exact⟨rfl,fun _=>h2 t hc,fun h=>absurd rfl h⟩
theorem yh4 (e:List Aid) (l:List Notice) (d:Int) (he:∀ v∈e,aidL v) (hl:∀ n∈l,aidL n.Aid):zag e l d=zjh e l d:=by
 unfold zag zjh
 rw[yed e he,yue l hl]
 rfl
end Go.Ab

namespace Go.Ab
open Go Go.Proofs
def yeo (a0:(List Aid)) (i1:Nat) (s1:List Aid):Except ((List Aid)) (List Aid):=
 .ok (s1.set i1 (zmc (a0.getD i1 default)))
def zad (a0:(List Aid)):(List Aid):=
 (match yh (yeo a0) (a0.length-0) 0 (List.replicate a0.length (default:Aid))with|.error e=>e|.ok s1=>s1)
namespace N24
theorem DD:DOk Tryz.prog (Go.Ab.DD [(33,dP D_zmc)]):=ya yzs.e <| ye _
theorem dn:type_of% (@D_zmc.eq_1):=by and_intros<;>intros<;>rfl
theorem ol:type_of% (@yfl):=@yfl
theorem den (a0:(List Aid)) (hb0:a0.length<1099511627776) (hb1:∀ v∈a0,bdAid v) (hp0:a0.length≤1048576):Den Tryz.prog 24 [encL 16 eAid a0] (ownL 63 16 ygb (zad a0)):=by
 generalize hR:zad a0=r
 unfold zad at hR
 refine di Tryz.func24 Tryz.ntmps24 Tryz.results24 ?_
 intro c hL hc hk
 obtain⟨hL0,_⟩:=hL
 have hw0:a0.length<9223372036854775808:=Nat.lt_succ_of_le (yb hL0).1
 have hw1:∀ v∈a0,bwAid v:=fun v hv=>yt v ((yb hL0).2 v hv)
 clear hL0
 simp only[pars,Nat.zero_add]
 iterate 2 refine rS ?_
 refine AWP.arrS 0 (fun j=>ygb ((List.replicate a0.length (default:Aid)).getD j default)) rfl zs ?_;simp only[setE]
 refine rS ?_
 refine AWP.block ?_
 generalize hz1:yh (yeo a0) (a0.length-0) 0 (List.replicate a0.length (default:Aid))=z1 at hR
 refine AWP.range (yeo a0) (fun i1 s1=>⟨[(0,encL 16 eAid a0),(3,.ref 0 16 0 s1.length),(4,.int .i64 (i1:Int))],[.arr 63 16 s1.length (fun j=>ygb (s1.getD j default))]⟩) (fun i1 s1=>s1.length=(List.replicate a0.length (default:Aid)).length) (a0.length) 0 (List.replicate a0.length (default:Aid)) [0] hz1 ot wt sm ?_
 clear hz1
 intro i1 s1 hi1 hW1 hz1
 refine rS ?_
 refine AWP.cond rfl (fun hb => ?_) (fun hb => ?_)
 ·have hlt1:i1<a0.length:=ot
  rw[yj hlt1]at hz1;simp only[yeo]at hz1
  iterate 2 refine rS ?_
  exact⟨_,[0],hlt1,wt,hz1,sm⟩
 ·obtain rfl:i1=a0.length:=ot
  rw[yi (Nat.le_refl _)]at hz1;subst hz1;dsimp only at hR
  refine AWP.exit ?_;refine yd ?_
  refine rS ?_
  refine AWP.ret ?_
  subst hR
  exact es
end N24
def D_zad : DF
 | [x0]=>some (ownL 63 16 ygb (zad (rdL dAid x0)),false,[wL 16 eAid dAid x0,(rdL dAid x0).length<1099511627776,∀ v∈(rdL dAid x0),bdAid v,(rdL dAid x0).length≤1048576])
 | _=>none
theorem ye1:OkD Tryz.prog 24 D_zad:=by unfold D_zad;exact dk N24.den
end Go.Ab

namespace Go.Ab
open Go Go.Proofs
theorem y8w (a:List Aid):zad a=a:=by
 unfold zad
 rw[y4f (b:=yeo a) (fun i=>zmc (a.getD i default)) (by simp) (fun i s _=>rfl)]
 simp only[yfl]
 exact ydb a
end Go.Ab

namespace Go.Ab
open Go Go.Proofs
def zn (a0:Edition):Edition:=
 { Number:=a0.Number,Day:=a0.Day,Aids:=(zad a0.Aids):Edition }
namespace N65
theorem DD:DOk Tryz.prog (Go.Ab.DD [(24,dP D_zad)]):=ya ye1.e <| ye _
theorem dn:type_of% (@D_zad.eq_1):=by and_intros<;>intros<;>rfl
theorem ol:type_of% (@y8w):=@y8w
theorem den (a0:Edition) (hb0:bdEdition a0) (hp0:a0.Aids.length≤1048576):Den Tryz.prog 65 [.agg (eEdition a0)] (.agg (yhc (zn a0))):=by
 generalize hR:zn a0=r
 unfold zn at hR
 refine di Tryz.func65 Tryz.ntmps65 Tryz.results65 ?_
 intro c hL hc hk
 obtain⟨hL0,_⟩:=hL
 have hw0:bwEdition a0:=yob a0 hL0
 clear hL0
 simp only[pars,Nat.zero_add]
 iterate 6 refine rS ?_
 refine AWP.ret ?_
 subst hR
 exact es
end N65
def D_zn : DF
 | [x0]=>some (.agg (yhc (zn (rdG yx x0))),false,[wG eEdition yx x0,bdEdition (rdG yx x0),(rdG yx x0).Aids.length≤1048576])
 | _=>none
def Dz_zn : DF
 | [x0]=>some (.agg (yhc (zn (rdG yx x0))),true,[wG eEdition yx x0,bdEdition (rdG yx x0),(rdG yx x0).Aids.length≤1048576])
 | _=>none
theorem yd3:OkD Tryz.prog 65 D_zn:=by unfold D_zn;exact dk N65.den
theorem ywx:OkD Tryz.prog 65 Dz_zn:=by unfold Dz_zn;exact dk N65.den
end Go.Ab

namespace Go.Ab
open Go Go.Proofs
theorem y02 (v:Edition):zn v=v:=by
 unfold zn
 simp only[y8w]
end Go.Ab

namespace Go.Ab
open Go Go.Proofs
def y0l (a0:(List Aid)) (a1:(List Aid)) (i1:Nat) (s1:Unit):Except (Bool) (Unit):=
 (bif (!(zwd (a0.getD i1 default) (a1.getD i1 default)))then .error false else .ok ())
def zgd (a0:(List Aid)) (a1:(List Aid)):Bool:=
 (bif ((a0.length:Int) != (a1.length:Int))then false else(match yh (y0l a0 a1) (a0.length-0) 0 ()with|.error e=>e|.ok s1=>true))
namespace N27
theorem DD:DOk Tryz.prog (Go.Ab.DD [(35,dP D_zwd)]):=ya y7s.e <| ye _
theorem dn:type_of% (@D_zwd.eq_1):=by and_intros<;>intros<;>rfl
theorem den (a0:(List Aid)) (a1:(List Aid))  : Den Tryz.prog 27 [encL 16 eAid a0,encL 16 eAid a1] (.bool (zgd a0 a1)):=by
 generalize hR:zgd a0 a1=r
 unfold zgd at hR
 refine di Tryz.func27 Tryz.ntmps27 Tryz.results27 ?_
 intro c hL hc hk
 obtain⟨hL0,hL1,_⟩:=hL
 have hw0:a0.length<9223372036854775808:=Nat.lt_succ_of_le (yb hL0).1
 have hw1:∀ v∈a0,bwAid v:=fun v hv=>yt v ((yb hL0).2 v hv)
 have hw2:a1.length<9223372036854775808:=Nat.lt_succ_of_le (yb hL1).1
 have hw3:∀ v∈a1,bwAid v:=fun v hv=>yt v ((yb hL1).2 v hv)
 clear hL0 hL1
 simp only[pars,Nat.zero_add]
 iterate 2 refine rS ?_
 refine AWP.cond rfl (fun hb => ?_) (fun hb => ?_)
 ·replace hR:=ct hR
  refine rS ?_
  refine AWP.ret ?_
  subst hR
  exact es
 ·replace hR:=cf hR
  refine rS ?_
  refine AWP.block ?_
  generalize hz1:yh (y0l a0 a1) (a0.length-0) 0 ()=z1 at hR
  refine AWP.range (y0l a0 a1) (fun i1 s1=>⟨[(0,encL 16 eAid a0),(1,encL 16 eAid a1),(5,.int .i64 (i1:Int))],[]⟩) (fun i1 s1=>True) (a0.length) 0 () [] hz1 ot wt sm ?_
  clear hz1
  intro i1 s1 hi1 hW1 hz1
  refine rS ?_
  refine AWP.cond rfl (fun hb => ?_) (fun hb => ?_)
  ·have hlt1:i1<a0.length:=ot
   rw[yj hlt1]at hz1;simp only[y0l]at hz1
   refine rD 8 ?_
   refine AWP.cond rfl (fun hb => ?_) (fun hb => ?_)
   ·simp only[hb,cond_true]at hz1
    refine rS ?_
    refine AWP.ret ?_
    subst hz1
    dsimp only at hR
    subst hR
    exact es
   ·simp only[hb,cond_false]at hz1
    refine rS ?_
    exact⟨_,[],hlt1,wt,hz1,sm⟩
  ·obtain rfl:i1=a0.length:=ot
   rw[yi (Nat.le_refl _)]at hz1;subst hz1;dsimp only at hR
   refine AWP.exit ?_;refine yd ?_
   refine rS ?_
   refine AWP.ret ?_
   subst hR
   exact es
end N27
def D_zgd : DF
 | [x0,x1]=>some (.bool (zgd (rdL dAid x0) (rdL dAid x1)),false,[wL 16 eAid dAid x0,wL 16 eAid dAid x1])
 | _=>none
theorem y2x:OkD Tryz.prog 27 D_zgd:=by unfold D_zgd;exact dk N27.den
end Go.Ab

namespace Go.Ab
open Go Go.Proofs
def zyd (a0:Edition) (a1:Edition):Bool:=
 (bif (a0.Number != a1.Number)then false else(bif (a0.Day != a1.Day)then false else(bif (!(zgd a0.Aids a1.Aids))then false else true)))
namespace N66
theorem DD:DOk Tryz.prog (Go.Ab.DD [(27,dP D_zgd)]):=ya y2x.e <| ye _
theorem dn:type_of% (@D_zgd.eq_1):=by and_intros<;>intros<;>rfl
theorem den (a0:Edition) (a1:Edition)  : Den Tryz.prog 66 [.agg (eEdition a0),.agg (eEdition a1)] (.bool (zyd a0 a1)):=by
 generalize hR:zyd a0 a1=r
 unfold zyd at hR
 refine di Tryz.func66 Tryz.ntmps66 Tryz.results66 ?_
 intro c hL hc hk
 obtain⟨hL0,hL1,_⟩:=hL
 have hw0:bwEdition a0:=yob a0 hL0
 have hw1:bwEdition a1:=yob a1 hL1
 clear hL0 hL1
 simp only[pars,Nat.zero_add]
 iterate 2 refine rS ?_
 refine AWP.cond rfl (fun hb => ?_) (fun hb => ?_)
 ·replace hR:=ct hR
  refine rS ?_
  refine AWP.ret ?_
  subst hR
  exact es
 ·replace hR:=cf hR
  refine rS ?_
  refine AWP.cond rfl (fun hb => ?_) (fun hb => ?_)
  ·replace hR:=ct hR
   refine rS ?_
   refine AWP.ret ?_
   subst hR
   exact es
  ·replace hR:=cf hR
   refine rS ?_
   refine AWP.cond rfl (fun hb => ?_) (fun hb => ?_)
   ·replace hR:=ct hR
    refine rS ?_
    refine AWP.ret ?_
    subst hR
    exact es
   ·replace hR:=cf hR
    refine rS ?_
    refine AWP.ret ?_
    subst hR
    exact es
end N66
def D_zyd : DF
 | [x0,x1]=>some (.bool (zyd (rdG yx x0) (rdG yx x1)),false,[wG eEdition yx x0,wG eEdition yx x1])
 | _=>none
theorem yfs:OkD Tryz.prog 66 D_zyd:=by unfold D_zyd;exact dk N66.den
end Go.Ab

namespace Go.Ab
open Go Go.Proofs
theorem yj3 (a b:List Aid):zgd a b=decide (a=b):=by
 unfold zgd
 by_cases hl:a.length=b.length
 ·have h1:((a.length:Int) != (b.length:Int))=false:=by simp[hl]
  rw[h1,cond_false,ykc (b:=y0l a b) (fun j => !decide (a.getD j default=b.getD j default)) false (fun j u _ _=>by simp only[y0l,ydx])]
  simp only[Nat.sub_zero,Nat.zero_add]
  rw[ycl a b hl]
  by_cases h:a=b<;>simp[h]
 ·have h1:((a.length:Int) != (b.length:Int))=true:=by simp;omega
  have h2:¬ a=b:=fun e=>hl (by rw[e])
  rw[h1,cond_true,decide_eq_false h2]
end Go.Ab

namespace Go.Ab
open Go Go.Proofs
theorem yr3 (a b:Edition):zyd a b=decide (a=b):=by
 unfold zyd
 simp only[yj3]
 by_cases h:a=b
 ·subst h;simp
 ·rw[decide_eq_false h]
  cases a;cases b
  simp only[Edition.mk.injEq]at h
  simp only[bne_iff_ne,Bool.cond_eq_ite,ite_eq_right_iff]
  (repeat' split)<;>simp_all
end Go.Ab

namespace Go.Ab
open Go Go.Proofs
def y0j (a0:(List Aid)) (a1:Int) (i1:Nat) (s1:Int):Except (Int) (Int):=
 (bif decide ((zzb (a0.getD i1 default) s1)<0)then .error (-1)else .ok (zzb (a0.getD i1 default) s1))
def zac (a0:(List Aid)) (a1:Int):Int:=
 (bif decide ((IntKind.wrap .i64 (a1-(a0.length:Int)))<0)then(-1)else(match yh (y0j a0 a1) (a0.length-0) 0 (IntKind.wrap .i64 (a1-(a0.length:Int)))with|.error e=>e|.ok s1=>s1))
namespace N22
theorem DD:DOk Tryz.prog (Go.Ab.DD [(31,dP D_zzb)]):=ya ykt.e <| ye _
theorem dn:type_of% (@D_zzb.eq_1):=by and_intros<;>intros<;>rfl
theorem den (a0:(List Aid)) (a1:Int)  : Den Tryz.prog 22 [encL 16 eAid a0,.int .i64 a1] (.int .i64 (zac a0 a1)):=by
 generalize hR:zac a0 a1=r
 unfold zac at hR
 refine di Tryz.func22 Tryz.ntmps22 Tryz.results22 ?_
 intro c hL hc hk
 obtain⟨hL0,hL1,_⟩:=hL
 have hw0:a0.length<9223372036854775808:=Nat.lt_succ_of_le (yb hL0).1
 have hw1:∀ v∈a0,bwAid v:=fun v hv=>yt v ((yb hL0).2 v hv)
 clear hL0 hL1
 simp only[pars,Nat.zero_add]
 iterate 3 refine rS ?_
 refine AWP.cond rfl (fun hb => ?_) (fun hb => ?_)
 ·replace hR:=ct hR
  refine rS ?_
  refine AWP.ret ?_
  subst hR
  exact es
 ·replace hR:=cf hR
  refine rS ?_
  refine AWP.block ?_
  generalize hz1:yh (y0j a0 a1) (a0.length-0) 0 (IntKind.wrap .i64 (a1-(a0.length:Int)))=z1 at hR
  refine AWP.range (y0j a0 a1) (fun i1 s1=>⟨[(0,encL 16 eAid a0),(1,.int .i64 s1),(5,.int .i64 (i1:Int))],[]⟩) (fun i1 s1=>True) (a0.length) 0 (IntKind.wrap .i64 (a1-(a0.length:Int))) [] hz1 ot wt sm ?_
  clear hz1
  intro i1 s1 hi1 hW1 hz1
  refine rS ?_
  refine AWP.cond rfl (fun hb => ?_) (fun hb => ?_)
  ·have hlt1:i1<a0.length:=ot
   rw[yj hlt1]at hz1;simp only[y0j]at hz1
   iterate 2 refine rS ?_
   refine AWP.cond rfl (fun hb => ?_) (fun hb => ?_)
   ·simp only[hb,cond_true]at hz1
    refine rS ?_
    refine AWP.ret ?_
    subst hz1
    dsimp only at hR
    subst hR
    exact es
   ·simp only[hb,cond_false]at hz1
    refine rS ?_
    exact⟨_,[],hlt1,wt,hz1,sm⟩
  ·obtain rfl:i1=a0.length:=ot
   rw[yi (Nat.le_refl _)]at hz1;subst hz1;dsimp only at hR
   refine AWP.exit ?_;refine yd ?_
   refine rS ?_
   refine AWP.ret ?_
   subst hR
   exact es
end N22
def D_zac : DF
 | [x0,x1]=>some (.int .i64 (zac (rdL dAid x0) (rdI x1)),false,[wL 16 eAid dAid x0,wI .i64 x1])
 | _=>none
theorem yty:OkD Tryz.prog 22 D_zac:=by unfold D_zac;exact dk N22.den
end Go.Ab

namespace Go.Ab
open Go Go.Proofs
theorem y3w (a:List Aid) (n:Int) (h0 : -1≤n) (h1:n≤1048576) (hl:a.length<9223372036854775808) (hx:∀ v∈a,bwAid v) :
  -1≤zac a n∧zac a n≤n∧(¬ zac a n<0→a.length≤1048576∧∀ v∈a,ybr v):=by
 unfold zac
 rw[show IntKind.wrap .i64 (n-(a.length:Int))=n-a.length from by rw[IntKind.wrap_i64];omega]
 by_cases c:n-(a.length:Int)<0
 ·rw[decide_eq_true c];exact⟨by simp,by simpa using h0,fun h=>absurd (by simp) h⟩
 ·rw[decide_eq_false c]
  simp only[cond_false]
  split
  ·rename_i e h
   obtain⟨j,t,_,_,h3⟩:=yfc h
   simp only[y0j]at h3
   have:e = -1:=by
    cases hq:decide (zzb (a.getD j default) t<0)with
    | true=>rw[hq]at h3;simpa using h3.symm
    | false=>rw[hq]at h3;simp at h3
   omega
  ·rename_i s h
   have:=y5g (b:=y0j a n) (fun i s => -1≤s∧s≤n-a.length∧∀ j,j<i→ybr (a.getD j default)) ⟨by omega,by omega,by intro j hj;omega⟩ (by
    intro j u v h1 h2 ⟨h3,h4,h5⟩ h6
    simp only[y0j]at h6
    have hb:bwAid (a.getD j default):=yfd hx (by decide) j
    have hf:=yip (a.getD j default) u h3 (by omega) hb
    cases hq:decide (zzb (a.getD j default) u<0)with
    | true=>rw[hq]at h6;simp at h6
    | false=>
     rw[hq]at h6
     simp only[cond_false,Except.ok.injEq]at h6
     subst h6
     refine⟨by omega,by omega,fun q hq2 => ?_⟩
     by_cases hqj:q=j
     ·subst hqj;exact hf.2.2 (of_decide_eq_false hq)
     ·exact h5 q (by omega)) h
   refine⟨by omega,by omega,fun _=>⟨by omega,fun v hv => ?_⟩⟩
   obtain⟨i,hi,rfl⟩:=List.getElem_of_mem hv
   have:=this.2.2 i (by omega)
   simpa [List.getD_eq_getElem?_getD,hi]using this
end Go.Ab

namespace Go.Ab
open Go Go.Proofs
def ztb (a0:Edition) (a1:Int):Int:=
 (bif decide ((zac a0.Aids a1)<0)then(-1)else(zac a0.Aids a1))
namespace N63
theorem DD:DOk Tryz.prog (Go.Ab.DD [(22,dP D_zac)]):=ya yty.e <| ye _
theorem dn:type_of% (@D_zac.eq_1):=by and_intros<;>intros<;>rfl
theorem den (a0:Edition) (a1:Int)  : Den Tryz.prog 63 [.agg (eEdition a0),.int .i64 a1] (.int .i64 (ztb a0 a1)):=by
 generalize hR:ztb a0 a1=r
 unfold ztb at hR
 refine di Tryz.func63 Tryz.ntmps63 Tryz.results63 ?_
 intro c hL hc hk
 obtain⟨hL0,hL1,_⟩:=hL
 have hw0:bwEdition a0:=yob a0 hL0
 clear hL0 hL1
 simp only[pars,Nat.zero_add]
 iterate 3 refine rS ?_
 refine AWP.cond rfl (fun hb => ?_) (fun hb => ?_)
 ·replace hR:=ct hR
  refine rS ?_
  refine AWP.ret ?_
  subst hR
  exact es
 ·replace hR:=cf hR
  refine rS ?_
  refine AWP.ret ?_
  subst hR
  exact es
end N63
def D_ztb : DF
 | [x0,x1]=>some (.int .i64 (ztb (rdG yx x0) (rdI x1)),false,[wG eEdition yx x0,wI .i64 x1])
 | _=>none
theorem yvs:OkD Tryz.prog 63 D_ztb:=by unfold D_ztb;exact dk N63.den
end Go.Ab
