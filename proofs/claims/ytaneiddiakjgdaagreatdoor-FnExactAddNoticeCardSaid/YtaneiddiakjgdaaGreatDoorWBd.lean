/- A part of a proof: walks of functions and lemmas of our own. No conditions. -/
import Derived.Test.YtaneiddiakjgdaaGreatDoorWAz
import Derived.Test.YtaneiddiakjgdaaGreatDoorWAt
import Derived.Test.YtaneiddiakjgdaaGreatDoorWAx
import Derived.Test.YtaneiddiakjgdaaGreatDoorWAl
import Derived.Test.YtaneiddiakjgdaaGreatDoorWBa
import Derived.Test.YtaneiddiakjgdaaGreatDoorWAp
import Derived.Test.YtaneiddiakjgdaaGreatDoorWAw
import Derived.Test.YtaneiddiakjgdaaGreatDoorWBc
import Derived.Test.YtaneiddiakjgdaaGreatDoorWAk
import Derived.Test.YtaneiddiakjgdaaGreatDoorWAs
import Derived.Test.YtaneiddiakjgdaaGreatDoorWAq
import Derived.Test.YtaneiddiakjgdaaGreatDoorWAn
import Derived.Test.YtaneiddiakjgdaaGreatDoorWBb
set_option linter.unusedSectionVars false
set_option linter.unusedVariables false
set_option linter.unusedSimpArgs false
set_option maxHeartbeats 1000000
namespace Go.Ab
open Go Go.Proofs
theorem y5f (l:List Notice):zrb l=l:=by
 unfold zrb
 rw[show(List.replicate 0 (default:Notice))=[]from rfl,yvi l (yrl l) (fun i s=>by simp only[yrl,ykd])]
theorem yxm (a:Notice):zre a=a:=by simp[zre,yge]
theorem yif (l:List Notice):zud l=l:=by
 unfold zud
 rw[yvi l (yvl l) (fun i s=>by simp only[yvl,yxm])]
end Go.Ab

namespace Go.Ab
open Go Go.Proofs
def zeb (a0:Character) (a1:Int):Int×Character:=
 (((za a0.Group a1).1),{ a0 with Group:=(za a0.Group a1).2 })
namespace N101
theorem DD:DOk Tryz.prog (Go.Ab.DD [(20,dM [true,false] D_za)]):=ya yfq.e <| ye _
theorem dn:type_of% (And.intro @D_za.eq_1 <| @ydg):=And.intro @D_za.eq_1 <| @ydg
theorem ol:type_of% (@ycd):=@ycd
theorem gr {p:Prop} (h:p:=by(grind [ycd]);first|done|fail):p:=h
theorem o1 {p:Prop} (h:p:=by(first|exact mrg);first|done|fail):p:=h
theorem den (a0:Character) (a1:Int) (hp0:a1≤9223372036854775807):DenM Tryz.prog 101 [.agg (y7b a0),.int .i64 a1] (.int .i64 ((zeb a0 a1).1)) [(.agg [.any,(ownL 2 1 yp (((zeb a0 a1).2).Group)),.any,.any,.any]),.any]:=by
 generalize hR:zeb a0 a1=r
 unfold zeb at hR
 refine dj (gb:=[true,false]) Tryz.func101 Tryz.ntmps101 Tryz.results101 ?_
 intro c hL hc hk
 obtain⟨hL0,hL1,_⟩:=hL
 have hw0:bwCharacter a0:=yjj a0 hL0
 clear hL0 hL1
 simp only[adEL,adE,adRL,adR,ownL,encL,sv,List.nil_append,List.append_nil,List.cons_append,List.length_cons,List.length_nil,pars,Nat.zero_add,Nat.reduceAdd]at hk ⊢
 iterate 3 refine rS ?_
 refine AWP.ret ?_
 subst hR
 exact es
end N101
def D_zeb : List AV → Option (AV × List AV × List Prop)
 | [x0,x1]=>some (.int .i64 ((zeb (rdG yf x0) (rdI x1)).1),[(.agg [.any,(ownL 2 1 yp (((zeb (rdG yf x0) (rdI x1)).2).Group)),.any,.any,.any]),.any],[wGO y7b yf x0,wI .i64 x1,(rdI x1)≤9223372036854775807])
 | _=>none
theorem ymz:OkM Tryz.prog 101 D_zeb:=by unfold D_zeb;exact dm N101.den
end Go.Ab

namespace Go.Ab
open Go Go.Proofs
theorem y7e (a:Character) (k:Int) (h:k≤9223372036854775807):(zeb a k).1≤9223372036854775807:=by
 unfold zeb
 exact y0c _ _ h
end Go.Ab

namespace Go.Ab
open Go Go.Proofs
theorem ykk (a:Character) (k:Int):(zeb a k).2.Group.length=a.Group.length:=by
 unfold zeb
 simp only[ycd]
theorem yfv (a:Character) (k:Int):subL (zeb a k).2.Group 0 a.Group.length=(zeb a k).2.Group:=by
 rw[← ykk a k];exact y8c _
end Go.Ab

namespace Go.Ab
open Go Go.Proofs
def zmb (a0:Aid) (a1:Int):Int×Aid:=
 (((zg a0.Sectors ((zeb a0.Light a1).1)).1),{ a0 with Light:={ a0.Light with Group:=((zeb a0.Light a1).2).Group },Sectors:=(zg a0.Sectors ((zeb a0.Light a1).1)).2 })
namespace N36
theorem DD:DOk Tryz.prog (Go.Ab.DD [(101,dM [true,false] D_zeb),(76,dM [true,false] D_zg)]):=ya ymz.e <| ya y5q.e <| ye _
theorem dn:type_of% (And.intro @D_zeb.eq_1 <| And.intro @D_zg.eq_1 <| And.intro @yfv <| @yfb):=And.intro @D_zeb.eq_1 <| And.intro @D_zg.eq_1 <| And.intro @yfv <| @yfb
theorem ol:type_of% (And.intro @ykk <| @y9):=And.intro @ykk <| @y9
theorem gr {p:Prop} (h:p:=by(grind [ykk,yhb]);first|done|fail):p:=h
theorem o1 {p:Prop} (h:p:=by(first|(exact mrg)|(exact y7e _ _ hp0));first|done|fail):p:=h
theorem den (a0:Aid) (a1:Int) (hp0:a1≤9223372036854775807):DenM Tryz.prog 36 [.agg (ygb a0),.int .i64 a1] (.int .i64 ((zmb a0 a1).1)) [(.agg [.any,.any,.any,.any,.any,.any,.any,.any,.any,.any,(ownL 2 1 yp ((((zmb a0 a1).2).Light).Group)),.any,.any,.any,(ownL 180 3 eSector (((zmb a0 a1).2).Sectors)),.any]),.any]:=by
 generalize hR:zmb a0 a1=r
 unfold zmb at hR
 refine dj (gb:=[true,false]) Tryz.func36 Tryz.ntmps36 Tryz.results36 ?_
 intro c hL hc hk
 obtain⟨hL0,hL1,_⟩:=hL
 have hw0:bwAid a0:=y9i a0 hL0
 clear hL0 hL1
 simp only[adEL,adE,adRL,adR,ownL,encL,sv,List.nil_append,List.append_nil,List.cons_append,List.length_cons,List.length_nil,pars,Nat.zero_add,Nat.reduceAdd]at hk ⊢
 iterate 4 refine rS ?_
 refine AWP.ret ?_
 subst hR
 exact es
end N36
def D_zmb : List AV → Option (AV × List AV × List Prop)
 | [x0,x1]=>some (.int .i64 ((zmb (rdG dAid x0) (rdI x1)).1),[(.agg [.any,.any,.any,.any,.any,.any,.any,.any,.any,.any,(ownL 2 1 yp ((((zmb (rdG dAid x0) (rdI x1)).2).Light).Group)),.any,.any,.any,(ownL 180 3 eSector (((zmb (rdG dAid x0) (rdI x1)).2).Sectors)),.any]),.any],[wGO ygb dAid x0,wI .i64 x1,(rdI x1)≤9223372036854775807])
 | _=>none
theorem yxx:OkM Tryz.prog 36 D_zmb:=by unfold D_zmb;exact dm N36.den
end Go.Ab

namespace Go.Ab
open Go Go.Proofs
theorem yzu (a:Aid) (k:Int) (h:k≤9223372036854775807):(zmb a k).1≤9223372036854775807:=by
 unfold zmb
 exact yhb _ _ (y7e _ _ h)
theorem ycf (a:Aid) (k:Int):(zmb a k).2.Light.Group.length=a.Light.Group.length:=by
 unfold zmb
 exact ykk _ _
theorem yef (a:Aid) (k:Int):(zmb a k).2.Sectors.length=a.Sectors.length:=by
 unfold zmb
 exact y9 _ _
theorem ygi (a:Aid) (k:Int):subL (zmb a k).2.Light.Group 0 a.Light.Group.length=(zmb a k).2.Light.Group:=by
 rw[← ycf a k];exact y8c _
theorem yei (a:Aid) (k:Int):subL (zmb a k).2.Sectors 0 a.Sectors.length=(zmb a k).2.Sectors:=by
 rw[← yef a k];exact y8c _
end Go.Ab

namespace Go.Ab
open Go Go.Proofs
def zoc (a0:(List Notice)) (a1:Notice):((List Notice)×Int):=
 (bif ((!(zu a0)) || (!(zpb a1)))then([],1)else(bif (decide (0<(a0.length:Int)) && (decide (a1.Number≤((a0.getD ((IntKind.wrap .i64 ((a0.length:Int)-1)).toNat) default).Number)) || decide (a1.Day<((a0.getD ((IntKind.wrap .i64 ((a0.length:Int)-1)).toNat) default).Day))))then([],7)else(bif (!(zgc a0 a1))then([],3)else(bif ((a0.length:Int) == 32)then([],5)else((zud a0)++[zre a1],0)))))
namespace N51
theorem DD:DOk Tryz.prog (Go.Ab.DD [(120,dP D_zpb),(121,dP D_zgc),(122,dP D_zud),(123,dP D_zre),(69,dP D_zu)]):=ya ynt.e <| ya y1s.e <| ya yhy.e <| ya yts.e <| ya yjv.e <| ye _
theorem dn:type_of% (And.intro @D_zpb.eq_1 <| And.intro @D_zgc.eq_1 <| And.intro @D_zud.eq_1 <| And.intro @D_zre.eq_1 <| @D_zu.eq_1):=by and_intros<;>intros<;>rfl
theorem ol:type_of% (@yif):=@yif
theorem gr {p:Prop} (h:p:=by(grind [ybj]);first|done|fail):p:=h
theorem o1 {p:Prop} (h:p:=by(first|(have h9:=hvl (by assumption);(try simp only[yif]);first|omega|(constructor<;>omega)));first|done|fail):p:=h
theorem den (a0:(List Notice)) (a1:Notice) (hb0:a0.length<1099511627776) (hb1:∀ v∈a0,bdNotice v) (hb2:bdNotice a1):Den Tryz.prog 51 [encL 20 eNotice a0,.agg (eNotice a1)] (.tup [ownL 90 20 ybb ((zoc a0 a1).1),.int .i64 ((zoc a0 a1).2)]):=by
 generalize hR:zoc a0 a1=r
 unfold zoc at hR
 refine di Tryz.func51 Tryz.ntmps51 Tryz.results51 ?_
 intro c hL hc hk
 obtain⟨hL0,hL1,_⟩:=hL
 have hw0:a0.length<9223372036854775808:=Nat.lt_succ_of_le (yb hL0).1
 have hw1:∀ v∈a0,bwNotice v:=fun v hv=>yg v ((yb hL0).2 v hv)
 have hw2:bwNotice a1:=yg a1 hL1
 clear hL0 hL1
 simp only[pars,Nat.zero_add]
 have hvl:((!(zu a0)) || (!(zpb a1)))=false→a0.length≤32:=fun h=>by rw[Bool.or_eq_false_iff]at h;exact ybj (by simpa using h.1)
 iterate 2 refine rS ?_
 refine AWP.cond rfl (fun hb => ?_) (fun hb => ?_)
 ·replace hR:=ct hR
  refine rS ?_
  refine AWP.ret ?_
  subst hR
  exact es
 ·replace hR:=cf hR
  refine rS ?_
  refine rD 24 ?_
  refine AWP.cond rfl (fun hb => ?_) (fun hb => ?_)
  ·replace hR:=ct hR
   refine rS ?_
   refine AWP.ret ?_
   subst hR
   exact es
  ·replace hR:=cf hR
   refine rS ?_
   refine AWP.cond rfl (fun hb => ?_) (fun hb => ?_)
   ·replace hR:=ct hR
    refine rS ?_
    refine AWP.ret ?_
    subst hR
    exact es
   ·replace hR:=cf hR
    refine rS ?_
    refine AWP.cond rfl (fun hb => ?_) (fun hb => ?_)
    ·replace hR:=ct hR
     refine rS ?_
     refine AWP.ret ?_
     subst hR
     exact es
    ·replace hR:=cf hR
     refine rS ?_
     refine AWP.ret ?_
     subst hR
     exact es
end N51
def D_zoc : DF
 | [x0,x1]=>some (.tup [ownL 90 20 ybb ((zoc (rdL yc x0) (rdG yc x1)).1),.int .i64 ((zoc (rdL yc x0) (rdG yc x1)).2)],false,[wL 20 eNotice yc x0,wG eNotice yc x1,(rdL yc x0).length<1099511627776,∀ v∈(rdL yc x0),bdNotice v,bdNotice (rdG yc x1)])
 | _=>none
theorem ydt:OkD Tryz.prog 51 D_zoc:=by unfold D_zoc;exact dk N51.den
end Go.Ab

namespace Go.Ab
open Go Go.Proofs
def zpc (a0:(List Notice)) (a1:Notice):((List Notice)×Int):=
 (bif ((!(zy a0)) || (!(zhe a1)))then([],1)else(bif decide (0<(a0.length:Int))then(bif (decide (a1.Number≤((a0.getD ((IntKind.wrap .i64 ((a0.length:Int)-1)).toNat) default).Number)) || decide (a1.Day<((a0.getD ((IntKind.wrap .i64 ((a0.length:Int)-1)).toNat) default).Day)))then([],7)else(bif ((a1.Kind == 4) && (!(zce a1 a0)))then([],3)else(bif ((a0.length:Int) == 32)then([],5)else((zrb ((zjc a0)++[a1])),0))))else(bif ((a1.Kind == 4) && (!(zce a1 a0)))then([],3)else(bif ((a0.length:Int) == 32)then([],5)else((zrb ((zjc a0)++[a1])),0)))))
namespace N53
theorem DD:DOk Tryz.prog (Go.Ab.DD [(124,dP D_zhe),(125,dP D_zce),(126,dP D_zrb),(127,dP D_zjc),(72,dP D_zy)]):=ya yct.e <| ya y7r.e <| ya yvx.e <| ya yp0.e <| ya ypq.e <| ye _
theorem dn:type_of% (And.intro @D_zhe.eq_1 <| And.intro @D_zce.eq_1 <| And.intro @D_zrb.eq_1 <| And.intro @D_zjc.eq_1 <| And.intro @D_zy.eq_1 <| @y6g):=And.intro @D_zhe.eq_1 <| And.intro @D_zce.eq_1 <| And.intro @D_zrb.eq_1 <| And.intro @D_zjc.eq_1 <| And.intro @D_zy.eq_1 <| @y6g
theorem ol:type_of% (And.intro @y5f <| @yhe):=And.intro @y5f <| @yhe
theorem gr {p:Prop} (h:p:=by(grind [y0i]);first|done|fail):p:=h
theorem o1 {p:Prop} (h:p:=by(first|(rename_i i_ hi_;by_cases hji:i_<(zjc a0).length;(focus(rw[ye3 hji];rfl));(rw[show i_-(zjc a0).length=0 from by omega];simp[elt,pureL,pureV];(first|(first|done|fail)|fail)))|(rename_i i_ hi_;by_cases hji:i_<(zjc a0).length;(focus(simp only[ye3 hji,cond_true,yxf,y6c];exact yjb _));(have e0:i_-(zjc a0).length=0:=by omega);simp only[yr4 hji,cond_false,e0,yxq,yxf,y6c];exact yjb _)|(rename_i v_ hv_;exact y31 (by simp only[yhe];assumption) (by assumption) v_ hv_)|(have h9:=hvl (by assumption);(try simp only[yhe,y5f,List.length_append,List.length_singleton,List.length_cons,List.length_nil]);first|omega|(constructor<;>omega)));first|done|fail):p:=h
set_option maxHeartbeats 4000000 in
set_option maxRecDepth 20000 in
theorem den (a0:(List Notice)) (a1:Notice) (hb0:a0.length<1099511627776) (hb1:∀ v∈a0,bdNotice v) (hb2:bdNotice a1):Den Tryz.prog 53 [encL 20 eNotice a0,.agg (eNotice a1)] (.tup [ownL 90 20 ybb ((zpc a0 a1).1),.int .i64 ((zpc a0 a1).2)]):=by
 generalize hR:zpc a0 a1=r
 unfold zpc at hR
 refine di Tryz.func53 Tryz.ntmps53 Tryz.results53 ?_
 intro c hL hc hk
 obtain⟨hL0,hL1,_⟩:=hL
 have hw0:a0.length<9223372036854775808:=Nat.lt_succ_of_le (yb hL0).1
 have hw1:∀ v∈a0,bwNotice v:=fun v hv=>yg v ((yb hL0).2 v hv)
 have hw2:bwNotice a1:=yg a1 hL1
 clear hL0 hL1
 simp only[pars,Nat.zero_add]
 have hvl:((!(zy a0)) || (!(zhe a1)))=false→a0.length≤32:=fun h=>by rw[Bool.or_eq_false_iff]at h;exact y0i (by simpa using h.1)
 iterate 2 refine rS ?_
 refine AWP.cond rfl (fun hb => ?_) (fun hb => ?_)
 ·replace hR:=ct hR
  refine rS ?_
  refine AWP.ret ?_
  subst hR
  exact es
 ·replace hR:=cf hR
  refine rS ?_
  refine AWP.cond rfl (fun hb => ?_) (fun hb => ?_)
  ·replace hR:=ct hR
   iterate 2 refine rS ?_
   refine AWP.cond rfl (fun hb => ?_) (fun hb => ?_)
   ·replace hR:=ct hR
    refine rS ?_
    refine AWP.ret ?_
    subst hR
    exact es
   ·replace hR:=cf hR
    refine rS ?_
    refine AWP.cond rfl (fun hb => ?_) (fun hb => ?_)
    ·replace hR:=ct hR
     refine rS ?_
     refine AWP.ret ?_
     subst hR
     exact es
    ·replace hR:=cf hR
     refine rS ?_
     refine AWP.cond rfl (fun hb => ?_) (fun hb => ?_)
     ·replace hR:=ct hR
      refine rS ?_
      refine AWP.ret ?_
      subst hR
      exact es
     ·replace hR:=cf hR
      refine AWP.skip ?_
      refine AWP.seq ?_
      refine AWP.regP mixed G_ok DD hc 4 [0,2] (.alt 1 [] [2] (.alt 3 [] [] .leaf .stop) (.alt 3 [] [0] (.alt 1 [] [] .leaf .stop) .stop)) (by kernel_rfl) (by kernel_rfl) (by kernel_rfl) (fun K hK => ?_)
      refine ygs ⟨[(4,.ref 0 20 0 ((zrb ((zjc a0)++[a1])).length)),(5,.int .i64 0)],[.arr 90 20 (zrb ((zjc a0)++[a1])).length (fun j=>ybb ((zrb ((zjc a0)++[a1])).getD j default))]⟩ hK ?_ (fun hJ => ?_)
      rotate_left
      ·simp only[yqi,runN,runP,yrc,nthO,ea,absV,absVL,cput,gv,sv,dn,reduceCtorEq,reduceIte,Nat.reduceBEq,Nat.reduceAdd,Nat.reduceEqDiff,Nat.reduceLT,Nat.reduceLeDiff,Nat.reduceMul,Nat.reduceSub,BEq.rfl,beq_self_eq_true,Int.reduceToNat]
       repeat' apply And.intro
       all_goals first|(refine hJ _ [5] ?_;exact sm)|exact ot
      clear hK K
      refine AWP.ret ?_
      subst hR
      exact es
  ·replace hR:=cf hR
   refine rS ?_
   refine AWP.cond rfl (fun hb => ?_) (fun hb => ?_)
   ·replace hR:=ct hR
    refine rS ?_
    refine AWP.ret ?_
    subst hR
    exact es
   ·replace hR:=cf hR
    refine rS ?_
    refine AWP.cond rfl (fun hb => ?_) (fun hb => ?_)
    ·replace hR:=ct hR
     refine rS ?_
     refine AWP.ret ?_
     subst hR
     exact es
    ·replace hR:=cf hR
     refine AWP.skip ?_
     refine AWP.seq ?_
     refine AWP.regP mixed G_ok DD hc 4 [0,2] (.alt 1 [] [2] (.alt 3 [] [] .leaf .stop) (.alt 3 [] [0] (.alt 1 [] [] .leaf .stop) .stop)) (by kernel_rfl) (by kernel_rfl) (by kernel_rfl) (fun K hK => ?_)
     refine ygs ⟨[(4,.ref 0 20 0 ((zrb ((zjc a0)++[a1])).length)),(5,.int .i64 0)],[.arr 90 20 (zrb ((zjc a0)++[a1])).length (fun j=>ybb ((zrb ((zjc a0)++[a1])).getD j default))]⟩ hK ?_ (fun hJ => ?_)
     rotate_left
     ·simp only[yqi,runN,runP,yrc,nthO,ea,absV,absVL,cput,gv,sv,dn,reduceCtorEq,reduceIte,Nat.reduceBEq,Nat.reduceAdd,Nat.reduceEqDiff,Nat.reduceLT,Nat.reduceLeDiff,Nat.reduceMul,Nat.reduceSub,BEq.rfl,beq_self_eq_true,Int.reduceToNat]
      repeat' apply And.intro
      all_goals first|(refine hJ _ [4] ?_;exact sm)|exact ot
     clear hK K
     refine AWP.ret ?_
     subst hR
     exact es
end N53
def D_zpc : DF
 | [x0,x1]=>some (.tup [ownL 90 20 ybb ((zpc (rdL yc x0) (rdG yc x1)).1),.int .i64 ((zpc (rdL yc x0) (rdG yc x1)).2)],false,[wL 20 eNotice yc x0,wG eNotice yc x1,(rdL yc x0).length<1099511627776,∀ v∈(rdL yc x0),bdNotice v,bdNotice (rdG yc x1)])
 | _=>none
theorem y0r:OkD Tryz.prog 53 D_zpc:=by unfold D_zpc;exact dk N53.den
end Go.Ab

namespace Go.Ab
open Go Go.Proofs
def zqd (a0:Notice) (a1:Int):Int×Notice:=
 (((zmb a0.Aid a1).1),{ a0 with Aid:={ a0.Aid with Light:={ a0.Aid.Light with Group:=(((zmb a0.Aid a1).2).Light).Group },Sectors:=((zmb a0.Aid a1).2).Sectors }})
namespace N55
theorem DD:DOk Tryz.prog (Go.Ab.DD [(36,dM [true,false] D_zmb)]):=ya yxx.e <| ye _
theorem dn:type_of% (And.intro @D_zmb.eq_1 <| And.intro @ygi <| @yei):=And.intro @D_zmb.eq_1 <| And.intro @ygi <| @yei
theorem ol:type_of% (And.intro @ycf <| @yef):=And.intro @ycf <| @yef
theorem gr {p:Prop} (h:p:=by(grind [yzu]);first|done|fail):p:=h
theorem o1 {p:Prop} (h:p:=by(first|exact mrg);first|done|fail):p:=h
theorem den (a0:Notice) (a1:Int) (hp0:a1≤9223372036854775807):DenM Tryz.prog 55 [.agg (ybb a0),.int .i64 a1] (.int .i64 ((zqd a0 a1).1)) [(.agg [.any,.any,.any,.any,.any,.any,.any,.any,.any,.any,.any,.any,.any,.any,(ownL 2 1 yp (((((zqd a0 a1).2).Aid).Light).Group)),.any,.any,.any,(ownL 180 3 eSector ((((zqd a0 a1).2).Aid).Sectors)),.any]),.any]:=by
 generalize hR:zqd a0 a1=r
 unfold zqd at hR
 refine dj (gb:=[true,false]) Tryz.func55 Tryz.ntmps55 Tryz.results55 ?_
 intro c hL hc hk
 obtain⟨hL0,hL1,_⟩:=hL
 have hw0:bwNotice a0:=yhi a0 hL0
 clear hL0 hL1
 simp only[adEL,adE,adRL,adR,ownL,encL,sv,List.nil_append,List.append_nil,List.cons_append,List.length_cons,List.length_nil,pars,Nat.zero_add,Nat.reduceAdd]at hk ⊢
 iterate 3 refine rS ?_
 refine AWP.ret ?_
 subst hR
 exact es
end N55
def D_zqd : List AV → Option (AV × List AV × List Prop)
 | [x0,x1]=>some (.int .i64 ((zqd (rdG yc x0) (rdI x1)).1),[(.agg [.any,.any,.any,.any,.any,.any,.any,.any,.any,.any,.any,.any,.any,.any,(ownL 2 1 yp (((((zqd (rdG yc x0) (rdI x1)).2).Aid).Light).Group)),.any,.any,.any,(ownL 180 3 eSector ((((zqd (rdG yc x0) (rdI x1)).2).Aid).Sectors)),.any]),.any],[wGO ybb yc x0,wI .i64 x1,(rdI x1)≤9223372036854775807])
 | _=>none
theorem yas:OkM Tryz.prog 55 D_zqd:=by unfold D_zqd;exact dm N55.den
end Go.Ab

namespace Go.Ab
open Go Go.Proofs
def zhh (a0:(List Notice)) (a1:Notice):Bool:=
 (bif decide ((zm a0 1048576)<0)then true else(bif decide ((zhb a1 (zm a0 1048576))<0)then true else(bif ((!(zw ((zpc (zf a0) (zl a1)).1) ((zoc (zf a0) (zl a1)).1))) || (((zpc (zf a0) (zl a1)).2) != ((zoc (zf a0) (zl a1)).2)))then false else(bif (!(zw (zf a0) (zf a0)))then false else(bif (!(zzc (zl a1) (zl a1)))then false else(bif ((decide (((zqd (zl a1) ((zdb (zf a0) 1).1)).1)<0) || (!(zw ((zpc (zf a0) (zl a1)).1) ((zoc (zf a0) (zl a1)).1)))) || (((zpc (zf a0) (zl a1)).2) != ((zoc (zf a0) (zl a1)).2)))then false else(bif decide ((zlc ((zdb ((zpc (zf a0) (zl a1)).1) 1).2) 1)<0)then false else(bif ((zlc ((zdb ((zpc (zf a0) (zl a1)).1) 1).2) 1) != ((zdb ((zpc (zf a0) (zl a1)).1) 1).1))then false else true))))))))
namespace N8
theorem DD:DOk Tryz.prog (Go.Ab.DD [(13,dP D_zm),(15,dP D_zf),(18,dP D_zw),(50,dP D_zhb),(51,dP D_zoc),(52,dP D_zl),(53,dP D_zpc),(54,dP D_zzc),(55,dM [true,false] D_zqd),(56,dP D_zlc)]):=ya yin.e <| ya y4m.e <| ya ykn.e <| ya yfn.e <| ya ydt.e <| ya yvw.e <| ya y0r.e <| ya yon.e <| ya yas.e <| ya yrt.e <| ye _
theorem DZ:DOk Tryz.prog (Go.Ab.DD [(13,dP D_zm),(15,dP D_zf),(18,dP D_zw),(50,dP D_zhb),(51,dP D_zoc),(52,dP Dz_zl),(53,dP D_zpc),(54,dP D_zzc),(55,dM [true,false] D_zqd),(56,dP D_zlc)]):=ya yin.e <| ya y4m.e <| ya ykn.e <| ya yfn.e <| ya ydt.e <| ya yv0.e <| ya y0r.e <| ya yon.e <| ya yas.e <| ya yrt.e <| ye _
theorem dn:type_of% (And.intro @D_zm.eq_1 <| And.intro @D_zf.eq_1 <| And.intro @D_zw.eq_1 <| And.intro @D_zhb.eq_1 <| And.intro @D_zoc.eq_1 <| And.intro @D_zl.eq_1 <| And.intro @D_zpc.eq_1 <| And.intro @D_zzc.eq_1 <| And.intro @D_zqd.eq_1 <| And.intro @D_zlc.eq_1 <| And.intro @Dz_zl.eq_1 <| And.intro @y5b <| @y5b):=And.intro @D_zm.eq_1 <| And.intro @D_zf.eq_1 <| And.intro @D_zw.eq_1 <| And.intro @D_zhb.eq_1 <| And.intro @D_zoc.eq_1 <| And.intro @D_zl.eq_1 <| And.intro @D_zpc.eq_1 <| And.intro @D_zzc.eq_1 <| And.intro @D_zqd.eq_1 <| And.intro @D_zlc.eq_1 <| And.intro @Dz_zl.eq_1 <| And.intro @y5b <| @y5b
theorem ol:type_of% (And.intro @yqu <| And.intro @ygc <| @y3t):=And.intro @yqu <| And.intro @ygc <| @y3t
theorem gr {p:Prop} (h:p:=by(grind [yac,yac]);first|done|fail):p:=h
theorem o1 {p:Prop} (h:p:=by(first|(exact yac _ _ (by exact mrg))|(exact yac _ _ (yac _ _ (by exact mrg)))|(exact mrg)|(exact ywd _ _ (by exact mrg))|((try simp only[ol]);first|(have h9:=hG0 (by assumption);first|exact h9.2|exact h9.1|omega)|(have h9:=hG1 (by assumption);first|exact h9.2|exact h9.1|omega))|((try simp only[ol]);have h9:=(hG1 (by assumption)).2;first|exact h9.1|exact h9.2|exact h9.2.1.1|exact h9.2.1.2.1|exact h9.2.1.2.2|exact h9.2.2.1.1|exact h9.2.2.1.2.1|exact h9.2.2.1.2.2|exact h9.2.2.2.1|exact h9.2.2.2.2|omega)|((try simp only[ol]);have h9:=(hG1 (by assumption)).1;first|exact h9.1|omega));first|done|fail):p:=h
set_option maxHeartbeats 4000000 in
set_option maxRecDepth 20000 in
theorem _root_.Go.Ab.zhh_den (a0:(List Notice)) (a1:Notice)  : Den Tryz.prog 8 [encL 20 eNotice a0,.agg (eNotice a1)] (.bool (zhh a0 a1)):=by
 generalize hR:zhh a0 a1=r
 unfold zhh at hR
 refine y6l G_ok Tryz.func8 (by kernel_rfl) rfl Tryz.ntmps8 (by rw[Tryz.results8]) (by simp) rfl ?_
 intro c u hdp hlit hL hc hk
 obtain⟨hL0,hL1,_⟩:=hL
 have hw0:a0.length<9223372036854775808:=Nat.lt_succ_of_le (yb hL0).1
 have hw1:∀ v∈a0,bwNotice v:=fun v hv=>yg v ((yb hL0).2 v hv)
 have hw2:bwNotice a1:=yg a1 hL1
 clear hL0 hL1
 simp only[litN,lit1,litM,ymo,litR,ywq,encL,sv,Nat.zero_add,Nat.reduceAdd]at hlit
 simp only[litN,lit1,litM,ymo,encL,sv,pars,Nat.zero_add,Nat.reduceAdd]
 have hf0:=y4i a0 (1048576) (by omega) (by omega) hw0 hw1
 have hf1:=ycj a1 (zm a0 (1048576)) (by omega) (by omega) hw2
 have hG0:decide (zm a0 (1048576)<0)=false→a0.length≤1048576∧∀ x∈a0,bdNotice x:=fun h=>⟨(hf0.2.2 (of_decide_eq_false h)).1,fun x hx=>ylg x ((hf0.2.2 (of_decide_eq_false h)).2 x hx)⟩
 have hG1:decide (zhb a1 (zm a0 (1048576))<0)=false→y3g a1∧bdNotice a1:=fun h=>⟨hf1.2.2 (of_decide_eq_false h),ylg a1 (hf1.2.2 (of_decide_eq_false h))⟩
 refine AWP.seq ?_
 refine rB ?_
 iterate 3 refine rS ?_
 refine AWP.cond rfl (fun hb => ?_) (fun hb => ?_)
 ·replace hR:=ct hR
  refine rS ?_
  refine AWP.ret ?_
  subst hR
  exact es
 ·replace hR:=cf hR
  iterate 2 refine rS ?_
  refine AWP.cond rfl (fun hb => ?_) (fun hb => ?_)
  ·replace hR:=ct hR
   refine rS ?_
   refine AWP.ret ?_
   subst hR
   exact es
  ·replace hR:=cf hR
   refine AWP.skip ?_
   refine AWP.seq ?_
   refine AWP.regP mixed G_ok DD hc 9 [0,2] (.alt 1 [] [2] (.alt 3 [] [] (.alt 4 [5,6,7] [5,6,7] (.alt 8 [] [7] .leaf .stop) .stop) .stop) .stop) (by kernel_rfl) (by kernel_rfl) (by kernel_rfl) (fun K hK => ?_);simp only[yqi,runN,runP,yrc,nthO,ea,absV,absVL,cput,gv,sv,dn,reduceCtorEq,reduceIte,Nat.reduceBEq,Nat.reduceAdd,Nat.reduceEqDiff,Nat.reduceLT,Nat.reduceLeDiff,Nat.reduceMul,Nat.reduceSub,BEq.rfl,beq_self_eq_true,Int.reduceToNat]
   repeat' apply And.intro
   all_goals first|refine hK _ ?_|exact ot
   all_goals clear hK K
   iterate 4 refine rS ?_
   refine AWP.cond rfl (fun hb => ?_) (fun hb => ?_)
   ·replace hR:=ct hR
    refine rS ?_
    refine AWP.ret ?_
    subst hR
    exact es
   ·replace hR:=cf hR
    refine rS ?_
    refine AWP.cond rfl (fun hb => ?_) (fun hb => ?_)
    ·replace hR:=ct hR
     refine rS ?_
     refine AWP.ret ?_
     subst hR
     exact es
    ·replace hR:=cf hR
     refine rZ 3 ?_
     refine AWP.cond rfl (fun hb => ?_) (fun hb => ?_)
     ·replace hR:=ct hR
      refine rS ?_
      refine AWP.ret ?_
      subst hR
      exact es
     ·replace hR:=cf hR
      refine rS ?_
      refine AWP.seq ?_
      refine AWP.keepT [0,3,6,7,8,9,10,11,12] ?_;simp only[List.map,putL,dropL,Nat.beq_refl,cond_true,ea,absV,absVL,cput,gv,sv,dn,reduceCtorEq,reduceIte,Nat.reduceBEq,Nat.reduceAdd,Nat.reduceEqDiff,Nat.reduceLT,Nat.reduceLeDiff,Nat.reduceMul,Nat.reduceSub,BEq.rfl,beq_self_eq_true,Int.reduceToNat]
      refine rX 2 (N19.den (zf a0) 1 ot) ?_
      iterate 2 refine rS ?_
      refine AWP.cond rfl (fun hb => ?_) (fun hb => ?_)
      ·replace hR:=ct hR
       refine rS ?_
       refine AWP.ret ?_
       subst hR
       exact es
      ·replace hR:=cf hR
       refine rS ?_
       refine AWP.seq ?_
       refine AWP.keepT [0,3,6,7,10,13] ?_;simp only[List.map,putL,dropL,Nat.beq_refl,cond_true,ea,absV,absVL,cput,gv,sv,dn,reduceCtorEq,reduceIte,Nat.reduceBEq,Nat.reduceAdd,Nat.reduceEqDiff,Nat.reduceLT,Nat.reduceLeDiff,Nat.reduceMul,Nat.reduceSub,BEq.rfl,beq_self_eq_true,Int.reduceToNat]
       refine rX 2 (N19.den ((zpc (zf a0) (zl a1)).1) 1 ot) ?_
       iterate 3 refine rS ?_
       refine AWP.cond rfl (fun hb => ?_) (fun hb => ?_)
       ·replace hR:=ct hR
        refine rS ?_
        refine AWP.ret ?_
        subst hR
        exact es
       ·replace hR:=cf hR
        refine rS ?_
        refine AWP.cond rfl (fun hb => ?_) (fun hb => ?_)
        ·replace hR:=ct hR
         refine rS ?_
         refine AWP.ret ?_
         subst hR
         exact es
        ·replace hR:=cf hR
         refine AWP.skip ?_
         refine AWP.seq ?_
         refine AWP.regP mixed G_ok DD hc 9 [0,2] (.alt 1 [] [2] (.alt 3 [] [] (.alt 4 [5,6,7] [5,6,7] (.alt 8 [] [7] .leaf .stop) .stop) .stop) .stop) (by kernel_rfl) (by kernel_rfl) (by kernel_rfl) (fun K hK => ?_);simp only[yqi,runN,runP,yrc,nthO,ea,absV,absVL,cput,gv,sv,dn,reduceCtorEq,reduceIte,Nat.reduceBEq,Nat.reduceAdd,Nat.reduceEqDiff,Nat.reduceLT,Nat.reduceLeDiff,Nat.reduceMul,Nat.reduceSub,BEq.rfl,beq_self_eq_true,Int.reduceToNat]
         repeat' apply And.intro
         all_goals first|refine hK _ ?_|exact ot
         all_goals clear hK K
         refine rS ?_
         refine AWP.cond rfl (fun hb => ?_) (fun hb => ?_)
         ·exfalso;simp_all
         ·refine rS ?_
          iterate 2 refine rS ?_
          refine AWP.cond rfl (fun hb => ?_) (fun hb => ?_)
          ·exfalso;simp_all
          ·refine rS ?_
           refine AWP.cond rfl (fun hb => ?_) (fun hb => ?_)
           ·exfalso;simp_all
           ·refine rS ?_
            refine AWP.ret ?_
            subst hR
            exact es
end N8
end Go.Ab

namespace Go.Ab
open Go Go.Proofs
theorem ywn (l:List Notice) (n:Notice) (hl:∀ m∈l,aidL m.Aid) (hn:aidL n.Aid):zpc l n=zoc l n:=by
 unfold zpc zoc
 rw[yue l hl,yli n hn]
 simp only[y5f,yhe,yif,yxm]
 cases hk:zu l with
 | false=>rfl
 | true=>
  cases zpb n with
  | false=>rfl
  | true=>
   simp only[Bool.not_true,Bool.or_false,cond_false]
   have hd:∀ m∈l,m.Day≤99999:=fun m hm=>ybx ((yqr hk).1 m hm)
   rw[ypp l n hd]
   cases decide (0<(l.length:Int))with
   | false=>rfl
   | true=>rfl
theorem ymm (P:Notice→Prop) (l:List Notice) (n:Notice) (hl:∀ m∈l,P m) (hn:P n):(∀ m∈(zoc l n).1,P m)∧(zoc l n).1.length≤33:=by
 unfold zoc
 cases hk:zu l with
 | false=>exact⟨fun v hv=>by simp at hv,by simp⟩
 | true=>
  have hlen:=(yqr hk).2
  simp only[Bool.not_true,Bool.false_or,yif,yxm]
  cases(!zpb n)with
  | true=>exact⟨fun v hv=>by simp at hv,by simp⟩
  | false=>
   simp only[cond_false]
   cases(decide (0<(l.length:Int)) && (decide (n.Number≤((l.getD ((IntKind.wrap .i64 ((l.length:Int)-1)).toNat) default).Number)) || decide (n.Day<((l.getD ((IntKind.wrap .i64 ((l.length:Int)-1)).toNat) default).Day))))with
   | true=>exact⟨fun v hv=>by simp at hv,by simp⟩
   | false=>
    simp only[cond_false]
    cases(!zgc l n)with
    | true=>exact⟨fun v hv=>by simp at hv,by simp⟩
    | false=>
     simp only[cond_false]
     cases((l.length:Int) == 32)with
     | true=>exact⟨fun v hv=>by simp at hv,by simp⟩
     | false=>
      refine⟨fun v hv => ?_,by simp;omega⟩
      rcases List.mem_append.1 hv with h|h
      ·exact hl v h
      ·have:v=n:=by simpa using h
       subst this;exact hn
theorem yep (a:Aid) (k:Int) (ha:aidB a) (h0:0≤k) (h1:k≤140737488355328):0≤(zmb a k).1:=by
 unfold zmb zeb
 simp only
 obtain⟨b1,b2⟩:=ha
 have e1:=za_k a.Light.Group k h0 (by omega) (by omega)
 rw[ync _ _ (by rw[e1];omega) (by rw[e1];omega) (by omega),e1]
 omega
theorem yjn (a0:List Notice) (a1:Notice) (hl:a0.length<9223372036854775808) (hv:∀ v∈a0,bwNotice v) (ha:bwNotice a1):zhh a0 a1=true:=by
 unfold zhh
 have f0:=y4i a0 1048576 (by omega) (by omega) hl hv
 by_cases c0:zm a0 1048576<0
 ·rw[decide_eq_true c0];rfl
 rw[decide_eq_false c0]
 have f1:=ycj a1 (zm a0 1048576) (by omega) (by omega) ha
 by_cases c1:zhb a1 (zm a0 1048576)<0
 ·rw[decide_eq_true c1];rfl
 rw[decide_eq_false c1]
 simp only[cond_false]
 obtain⟨g0,g1⟩:=f0.2.2 c0
 have g2:=f1.2.2 c1
 simp only[yqu,y3t,yx1,ymw]
 have hb:∀ v∈a0,aidP v.Aid:=fun v h=>y6m (hv v h) (g1 v h)
 have ha1:aidP a1.Aid:=y6m ha g2
 rw[ywn a0 a1 (fun v h=>(hb v h).1) ha1.1]
 have hg:=ymm (fun m=>aidP m.Aid) a0 a1 hb ha1
 have hm:=ysi (zoc a0 a1).1 1 (fun v h=>(hg.1 v h).2) (by omega) (by omega) (by omega)
 have hk:=yvd a0 1 (fun v h=>(hb v h).2) g0 (by omega) (by omega)
 have hk2:0≤(zqd a1 (zdb a0 1).1).1:=by
  unfold zqd
  exact yep a1.Aid _ ha1.2 (by omega) (by omega)
 rw[hm.1,decide_eq_false hm.2,decide_eq_false (show ¬ (zqd a1 (zdb a0 1).1).1<0 by omega)]
 simp
end Go.Ab
