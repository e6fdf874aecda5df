/- A part of a proof: walks of functions and lemmas of our own. No conditions. -/
import Derived.Test.YtopoomikfjodkaaGreatDoorQAl
import Derived.Test.YtopoomikfjodkaaGreatDoorQAm
import Derived.Test.YtopoomikfjodkaaGreatDoorQBc
import Derived.Test.YtopoomikfjodkaaGreatDoorQBb
import Derived.Test.YtopoomikfjodkaaGreatDoorQAo
import Derived.Test.YtopoomikfjodkaaGreatDoorQAi
import Derived.Test.YtopoomikfjodkaaGreatDoorQBd
import Derived.Test.YtopoomikfjodkaaGreatDoorQAx
import Derived.Test.YtopoomikfjodkaaGreatDoorQAp
import Derived.Test.YtopoomikfjodkaaGreatDoorQAq
import Derived.Test.YtopoomikfjodkaaGreatDoorQAs
import Derived.Test.YtopoomikfjodkaaGreatDoorQAv
import Derived.Test.YtopoomikfjodkaaGreatDoorQAr
import Derived.Test.YtopoomikfjodkaaGreatDoorQAt
set_option linter.unusedSectionVars false
set_option linter.unusedVariables false
set_option linter.unusedSimpArgs false
set_option maxHeartbeats 1000000
namespace Go.Ab
open Go Go.Proofs
def yrj (a0:(List Aid)) (a1:Int) (i1:Nat) (s1:Int×List Aid):Except (Int×(List Aid)) (Int×List Aid):=
 .ok (IntKind.wrap .i64 (((zeb ((s1.2.getD i1 default).Sectors) (IntKind.wrap .i64 ((IntKind.wrap .i64 ((IntKind.wrap .i64 (((zn (((s1.2.getD i1 default).Light).Group) (IntKind.wrap .i64 ((IntKind.wrap .i64 ((IntKind.wrap .i64 ((IntKind.wrap .i64 ((IntKind.wrap .i64 ((IntKind.wrap .i64 ((IntKind.wrap .i64 ((IntKind.wrap .i64 ((IntKind.wrap .i64 ((IntKind.wrap .i64 (s1.1+1))+1))+1))+1))+1))+1))+1))+1))+1))+1))).1)+1))+1))+1))).1)+1),s1.2.set i1 ({ Number:=s1.1,Name:=(zq (IntKind.wrap .i64 (s1.1+1))),At:={ X:=IntKind.wrap .i64 ((IntKind.wrap .i64 (s1.1+1))+1),Y:=IntKind.wrap .i64 ((IntKind.wrap .i64 ((IntKind.wrap .i64 (s1.1+1))+1))+1):Point },Height:=IntKind.wrap .i64 ((IntKind.wrap .i64 ((IntKind.wrap .i64 ((IntKind.wrap .i64 (s1.1+1))+1))+1))+1),Mark:={ Kind:=IntKind.wrap .i64 ((IntKind.wrap .i64 ((IntKind.wrap .i64 ((IntKind.wrap .i64 ((IntKind.wrap .i64 (s1.1+1))+1))+1))+1))+1),Colors:=(zq (IntKind.wrap .i64 ((IntKind.wrap .i64 ((IntKind.wrap .i64 ((IntKind.wrap .i64 ((IntKind.wrap .i64 ((IntKind.wrap .i64 (s1.1+1))+1))+1))+1))+1))+1))),Shape:=(zq (IntKind.wrap .i64 ((IntKind.wrap .i64 ((IntKind.wrap .i64 ((IntKind.wrap .i64 ((IntKind.wrap .i64 ((IntKind.wrap .i64 ((IntKind.wrap .i64 (s1.1+1))+1))+1))+1))+1))+1))+1))),Topmark:=(zq (IntKind.wrap .i64 ((IntKind.wrap .i64 ((IntKind.wrap .i64 ((IntKind.wrap .i64 ((IntKind.wrap .i64 ((IntKind.wrap .i64 ((IntKind.wrap .i64 ((IntKind.wrap .i64 (s1.1+1))+1))+1))+1))+1))+1))+1))+1))):Mark },Light:={ Kind:=IntKind.wrap .i64 ((IntKind.wrap .i64 ((IntKind.wrap .i64 ((IntKind.wrap .i64 ((IntKind.wrap .i64 ((IntKind.wrap .i64 ((IntKind.wrap .i64 ((IntKind.wrap .i64 ((IntKind.wrap .i64 (s1.1+1))+1))+1))+1))+1))+1))+1))+1))+1),Group:=(zn (((s1.2.getD i1 default).Light).Group) (IntKind.wrap .i64 ((IntKind.wrap .i64 ((IntKind.wrap .i64 ((IntKind.wrap .i64 ((IntKind.wrap .i64 ((IntKind.wrap .i64 ((IntKind.wrap .i64 ((IntKind.wrap .i64 ((IntKind.wrap .i64 ((IntKind.wrap .i64 (s1.1+1))+1))+1))+1))+1))+1))+1))+1))+1))+1))).2,Letter:=(zq ((zn (((s1.2.getD i1 default).Light).Group) (IntKind.wrap .i64 ((IntKind.wrap .i64 ((IntKind.wrap .i64 ((IntKind.wrap .i64 ((IntKind.wrap .i64 ((IntKind.wrap .i64 ((IntKind.wrap .i64 ((IntKind.wrap .i64 ((IntKind.wrap .i64 ((IntKind.wrap .i64 (s1.1+1))+1))+1))+1))+1))+1))+1))+1))+1))+1))).1)),Colors:=(zq (IntKind.wrap .i64 (((zn (((s1.2.getD i1 default).Light).Group) (IntKind.wrap .i64 ((IntKind.wrap .i64 ((IntKind.wrap .i64 ((IntKind.wrap .i64 ((IntKind.wrap .i64 ((IntKind.wrap .i64 ((IntKind.wrap .i64 ((IntKind.wrap .i64 ((IntKind.wrap .i64 ((IntKind.wrap .i64 (s1.1+1))+1))+1))+1))+1))+1))+1))+1))+1))+1))).1)+1))),Period:=IntKind.wrap .i64 ((IntKind.wrap .i64 (((zn (((s1.2.getD i1 default).Light).Group) (IntKind.wrap .i64 ((IntKind.wrap .i64 ((IntKind.wrap .i64 ((IntKind.wrap .i64 ((IntKind.wrap .i64 ((IntKind.wrap .i64 ((IntKind.wrap .i64 ((IntKind.wrap .i64 ((IntKind.wrap .i64 ((IntKind.wrap .i64 (s1.1+1))+1))+1))+1))+1))+1))+1))+1))+1))+1))).1)+1))+1):Character },Sectors:=(zeb ((s1.2.getD i1 default).Sectors) (IntKind.wrap .i64 ((IntKind.wrap .i64 ((IntKind.wrap .i64 (((zn (((s1.2.getD i1 default).Light).Group) (IntKind.wrap .i64 ((IntKind.wrap .i64 ((IntKind.wrap .i64 ((IntKind.wrap .i64 ((IntKind.wrap .i64 ((IntKind.wrap .i64 ((IntKind.wrap .i64 ((IntKind.wrap .i64 ((IntKind.wrap .i64 ((IntKind.wrap .i64 (s1.1+1))+1))+1))+1))+1))+1))+1))+1))+1))+1))).1)+1))+1))+1))).2,Intensity:=((zeb ((s1.2.getD i1 default).Sectors) (IntKind.wrap .i64 ((IntKind.wrap .i64 ((IntKind.wrap .i64 (((zn (((s1.2.getD i1 default).Light).Group) (IntKind.wrap .i64 ((IntKind.wrap .i64 ((IntKind.wrap .i64 ((IntKind.wrap .i64 ((IntKind.wrap .i64 ((IntKind.wrap .i64 ((IntKind.wrap .i64 ((IntKind.wrap .i64 ((IntKind.wrap .i64 ((IntKind.wrap .i64 (s1.1+1))+1))+1))+1))+1))+1))+1))+1))+1))+1))).1)+1))+1))+1))).1):Aid }))
def zhc (a0:(List Aid)) (a1:Int):Int×(List Aid):=
 (match yd (yrj a0 a1) (a0.length-0) 0 (a1,a0)with|.error e=>e|.ok s1=>(s1.1,s1.2))
namespace N40
theorem DD:DOk Tryz.prog (Go.Ab.DD [(120,dP D_zq),(121,dM [true,false] D_zn),(122,dM [true,false] D_zeb)]):=ya yfk.e <| ya yx4.e <| ya yo2.e <| ye _
theorem dn:type_of% (And.intro @D_zq.eq_1 <| And.intro @D_zn.eq_1 <| And.intro @D_zeb.eq_1 <| And.intro @yru <| @ymc):=And.intro @D_zq.eq_1 <| And.intro @D_zn.eq_1 <| And.intro @D_zeb.eq_1 <| And.intro @yru <| @ymc
theorem ol:type_of% (And.intro @yhj <| @y2b):=And.intro @yhj <| @y2b
theorem gr {p:Prop} (h:p:=by(grind [yhj,yvc]);first|done|fail):p:=h
theorem o1 {p:Prop} (h:p:=by(first|(exact mrg)|(first|exact ypg _ _ (by exact mrg)|exact yvc _ _ (by exact mrg)|exact ypg _ _ (yxd _)|exact yvc _ _ (yxd _)));first|done|fail):p:=h
theorem o2 {p:Prop} (h:p:=by(first|(and_intros<;>first|rfl|decide|(rw[IntKind.wrap_i64];omega)|(simp only[List.length_set];(first|done|fail))|(intro j hj;by_cases hji:j=i1;(focus(subst hji;simp only[yy2 hj,Nat.beq_refl,beq_self_eq_true,cond_true,ol];first|(first|done|fail)|rfl|(and_intros<;>rfl)));(simp only[ykw hji,beqF hji,cond_false];first|(first|done|fail)|rfl|(and_intros<;>rfl)))));first|done|fail):p:=h
set_option maxHeartbeats 4000000 in
set_option maxRecDepth 20000 in
theorem den (a0:(List Aid)) (a1:Int) (hp0:a1≤9223372036854775807):DenD Tryz.prog 40 [ownL 60 16 y0e a0,.int .i64 a1] (.int .i64 ((zhc a0 a1).1)) [(ownL 60 16 y0e ((zhc a0 a1).2)),.any]:=by
 generalize hR:zhc a0 a1=r
 unfold zhc at hR
 refine yfw (gb:=[true,false]) G_ok Tryz.func40 (by kernel_rfl) rfl Tryz.ntmps40 (by rw[Tryz.results40]) (by simp) ?_
 intro c hdp hL hc hk
 obtain⟨hL0,hL1,_⟩:=hL
 have hw0:a0.length<9223372036854775808:=Nat.lt_succ_of_le (yac hL0).1
 have hw1:∀ v∈a0,bwAid v:=fun v hv=>yqx v ((yac hL0).2 v hv)
 clear hL0 hL1
 simp only[adEL,adE,adRL,adR,ownL,encL,sv,List.nil_append,List.append_nil,List.cons_append,List.length_cons,List.length_nil,pars,Nat.zero_add,Nat.reduceAdd]at hk ⊢
 iterate 2 refine rS ?_
 refine AWP.block ?_
 generalize hz1:yd (yrj a0 a1) (a0.length-0) 0 (a1,a0)=z1 at hR
 refine AWP.range (yrj a0 a1) (fun i1 s1=>⟨[(0,.ref 0 16 0 s1.2.length),(1,.int .i64 s1.1),(5,.int .i64 (i1:Int))],[.arr 60 16 s1.2.length (fun j=>y0e (s1.2.getD j default))]⟩) (fun i1 s1=>s1.2.length=a0.length∧s1.1≤9223372036854775807) (a0.length) 0 (a1,a0) [0] hz1 ot wt sm ?_
 clear hz1
 intro i1 s1 hi1 hW1 hz1
 refine rS ?_
 refine AWP.cond rfl (fun hb => ?_) (fun hb => ?_)
 ·have hlt1:i1<a0.length:=ot
  rw[yh hlt1]at hz1;simp only[yrj]at hz1
  iterate 4 refine rS ?_
  refine AWP.keepT [0,1,5] ?_;simp only[List.map,putL,dropL,Nat.beq_refl,cond_true,ea,absV,absVL,cput,gv,sv,dn,reduceCtorEq,reduceIte,Nat.reduceBEq,Nat.reduceAdd,Nat.reduceEqDiff,Nat.reduceLT,Nat.reduceLeDiff,Nat.reduceMul,Nat.reduceSub,BEq.rfl,beq_self_eq_true,Int.reduceToNat]
  iterate 5 refine rS ?_
  refine AWP.keepT [0,1,5] ?_;simp only[List.map,putL,dropL,Nat.beq_refl,cond_true,ea,absV,absVL,cput,gv,sv,dn,reduceCtorEq,reduceIte,Nat.reduceBEq,Nat.reduceAdd,Nat.reduceEqDiff,Nat.reduceLT,Nat.reduceLeDiff,Nat.reduceMul,Nat.reduceSub,BEq.rfl,beq_self_eq_true,Int.reduceToNat]
  iterate 5 refine rS ?_
  refine AWP.keepT [0,1,5] ?_;simp only[List.map,putL,dropL,Nat.beq_refl,cond_true,ea,absV,absVL,cput,gv,sv,dn,reduceCtorEq,reduceIte,Nat.reduceBEq,Nat.reduceAdd,Nat.reduceEqDiff,Nat.reduceLT,Nat.reduceLeDiff,Nat.reduceMul,Nat.reduceSub,BEq.rfl,beq_self_eq_true,Int.reduceToNat]
  iterate 5 refine rS ?_
  refine AWP.keepT [0,1,5] ?_;simp only[List.map,putL,dropL,Nat.beq_refl,cond_true,ea,absV,absVL,cput,gv,sv,dn,reduceCtorEq,reduceIte,Nat.reduceBEq,Nat.reduceAdd,Nat.reduceEqDiff,Nat.reduceLT,Nat.reduceLeDiff,Nat.reduceMul,Nat.reduceSub,BEq.rfl,beq_self_eq_true,Int.reduceToNat]
  refine rS ?_
  refine AWP.seq ?_
  refine AWP.openE rb 0 0 i1 10 rfl rfl ot (by simp only[putL,dropL,Nat.beq_refl,cond_true,ea,absV,absVL,cput,gv,sv,dn,reduceCtorEq,reduceIte,Nat.reduceBEq,Nat.reduceAdd,Nat.reduceEqDiff,Nat.reduceLT,Nat.reduceLeDiff,Nat.reduceMul,Nat.reduceSub,BEq.rfl,beq_self_eq_true,Int.reduceToNat];rfl) ?_;simp only[putL,dropL,Nat.beq_refl,cond_true,ea,absV,absVL,cput,gv,sv,dn,reduceCtorEq,reduceIte,Nat.reduceBEq,Nat.reduceAdd,Nat.reduceEqDiff,Nat.reduceLT,Nat.reduceLeDiff,Nat.reduceMul,Nat.reduceSub,BEq.rfl,beq_self_eq_true,Int.reduceToNat]
  refine rS ?_
  simp only[ol]
  refine AWP.closeE 0 0 i1 10 1 rfl rfl rfl (by decide) ot (by simp only[putL,dropL,Nat.beq_refl,cond_true,ea,absV,absVL,cput,gv,sv,dn,reduceCtorEq,reduceIte,Nat.reduceBEq,Nat.reduceAdd,Nat.reduceEqDiff,Nat.reduceLT,Nat.reduceLeDiff,Nat.reduceMul,Nat.reduceSub,BEq.rfl,beq_self_eq_true,Int.reduceToNat];rfl) (fun k hk=>by rfl) ?_;simp only[putL,dropL,Nat.beq_refl,cond_true,ea,absV,absVL,cput,gv,sv,dn,reduceCtorEq,reduceIte,Nat.reduceBEq,Nat.reduceAdd,Nat.reduceEqDiff,Nat.reduceLT,Nat.reduceLeDiff,Nat.reduceMul,Nat.reduceSub,BEq.rfl,beq_self_eq_true,Int.reduceToNat]
  iterate 3 refine rS ?_
  refine AWP.keepT [0,1,5] ?_;simp only[List.map,putL,dropL,Nat.beq_refl,cond_true,ea,absV,absVL,cput,gv,sv,dn,reduceCtorEq,reduceIte,Nat.reduceBEq,Nat.reduceAdd,Nat.reduceEqDiff,Nat.reduceLT,Nat.reduceLeDiff,Nat.reduceMul,Nat.reduceSub,BEq.rfl,beq_self_eq_true,Int.reduceToNat]
  iterate 3 refine rS ?_
  refine AWP.seq ?_
  refine AWP.openE rb 0 0 i1 14 rfl rfl ot (by simp only[putL,dropL,Nat.beq_refl,cond_true,ea,absV,absVL,cput,gv,sv,dn,reduceCtorEq,reduceIte,Nat.reduceBEq,Nat.reduceAdd,Nat.reduceEqDiff,Nat.reduceLT,Nat.reduceLeDiff,Nat.reduceMul,Nat.reduceSub,BEq.rfl,beq_self_eq_true,Int.reduceToNat];rfl) ?_;simp only[putL,dropL,Nat.beq_refl,cond_true,ea,absV,absVL,cput,gv,sv,dn,reduceCtorEq,reduceIte,Nat.reduceBEq,Nat.reduceAdd,Nat.reduceEqDiff,Nat.reduceLT,Nat.reduceLeDiff,Nat.reduceMul,Nat.reduceSub,BEq.rfl,beq_self_eq_true,Int.reduceToNat]
  refine rS ?_
  simp only[ol]
  refine AWP.closeE 0 0 i1 14 2 rfl rfl rfl (by decide) ot (by simp only[putL,dropL,Nat.beq_refl,cond_true,ea,absV,absVL,cput,gv,sv,dn,reduceCtorEq,reduceIte,Nat.reduceBEq,Nat.reduceAdd,Nat.reduceEqDiff,Nat.reduceLT,Nat.reduceLeDiff,Nat.reduceMul,Nat.reduceSub,BEq.rfl,beq_self_eq_true,Int.reduceToNat];rfl) (fun k hk=>by rfl) ?_;simp only[putL,dropL,Nat.beq_refl,cond_true,ea,absV,absVL,cput,gv,sv,dn,reduceCtorEq,reduceIte,Nat.reduceBEq,Nat.reduceAdd,Nat.reduceEqDiff,Nat.reduceLT,Nat.reduceLeDiff,Nat.reduceMul,Nat.reduceSub,BEq.rfl,beq_self_eq_true,Int.reduceToNat]
  refine rS ?_
  refine AWP.keepT [0,1,5] ?_;simp only[List.map,putL,dropL,Nat.beq_refl,cond_true,ea,absV,absVL,cput,gv,sv,dn,reduceCtorEq,reduceIte,Nat.reduceBEq,Nat.reduceAdd,Nat.reduceEqDiff,Nat.reduceLT,Nat.reduceLeDiff,Nat.reduceMul,Nat.reduceSub,BEq.rfl,beq_self_eq_true,Int.reduceToNat]
  iterate 2 refine rS ?_
  exact⟨_,[0],hlt1,by(exact mrg),hz1,sm⟩
 ·obtain rfl:i1=a0.length:=ot
  rw[yg (Nat.le_refl _)]at hz1;subst hz1;dsimp only at hR
  refine AWP.exit ?_;refine yb ?_
  refine rS ?_
  refine AWP.ret ?_
  subst hR
  exact es
end N40
end Go.Ab

namespace Go.Ab
open Go Go.Proofs
def yek (a0:(List Aid)) (a1:Int) (i1:Nat) (s1:Int):Except (Int) (Int):=
 (bif (((a0.getD i1 default).Number) != s1)then .error (-1)else(bif (((a0.getD i1 default).Name) != (zq (IntKind.wrap .i64 (s1+1))))then .error (-1)else(bif ((((a0.getD i1 default).At).X) != (IntKind.wrap .i64 ((IntKind.wrap .i64 (s1+1))+1)))then .error (-1)else(bif ((((a0.getD i1 default).At).Y) != (IntKind.wrap .i64 ((IntKind.wrap .i64 ((IntKind.wrap .i64 (s1+1))+1))+1)))then .error (-1)else(bif (((a0.getD i1 default).Height) != (IntKind.wrap .i64 ((IntKind.wrap .i64 ((IntKind.wrap .i64 ((IntKind.wrap .i64 (s1+1))+1))+1))+1)))then .error (-1)else(bif ((((a0.getD i1 default).Mark).Kind) != (IntKind.wrap .i64 ((IntKind.wrap .i64 ((IntKind.wrap .i64 ((IntKind.wrap .i64 ((IntKind.wrap .i64 (s1+1))+1))+1))+1))+1)))then .error (-1)else(bif ((((a0.getD i1 default).Mark).Colors) != (zq (IntKind.wrap .i64 ((IntKind.wrap .i64 ((IntKind.wrap .i64 ((IntKind.wrap .i64 ((IntKind.wrap .i64 ((IntKind.wrap .i64 (s1+1))+1))+1))+1))+1))+1))))then .error (-1)else(bif ((((a0.getD i1 default).Mark).Shape) != (zq (IntKind.wrap .i64 ((IntKind.wrap .i64 ((IntKind.wrap .i64 ((IntKind.wrap .i64 ((IntKind.wrap .i64 ((IntKind.wrap .i64 ((IntKind.wrap .i64 (s1+1))+1))+1))+1))+1))+1))+1))))then .error (-1)else(bif ((((a0.getD i1 default).Mark).Topmark) != (zq (IntKind.wrap .i64 ((IntKind.wrap .i64 ((IntKind.wrap .i64 ((IntKind.wrap .i64 ((IntKind.wrap .i64 ((IntKind.wrap .i64 ((IntKind.wrap .i64 ((IntKind.wrap .i64 (s1+1))+1))+1))+1))+1))+1))+1))+1))))then .error (-1)else(bif ((((a0.getD i1 default).Light).Kind) != (IntKind.wrap .i64 ((IntKind.wrap .i64 ((IntKind.wrap .i64 ((IntKind.wrap .i64 ((IntKind.wrap .i64 ((IntKind.wrap .i64 ((IntKind.wrap .i64 ((IntKind.wrap .i64 ((IntKind.wrap .i64 (s1+1))+1))+1))+1))+1))+1))+1))+1))+1)))then .error (-1)else(bif decide ((zpb (((a0.getD i1 default).Light).Group) (IntKind.wrap .i64 ((IntKind.wrap .i64 ((IntKind.wrap .i64 ((IntKind.wrap .i64 ((IntKind.wrap .i64 ((IntKind.wrap .i64 ((IntKind.wrap .i64 ((IntKind.wrap .i64 ((IntKind.wrap .i64 ((IntKind.wrap .i64 (s1+1))+1))+1))+1))+1))+1))+1))+1))+1))+1)))<0)then .error (-1)else(bif ((((a0.getD i1 default).Light).Letter) != (zq (zpb (((a0.getD i1 default).Light).Group) (IntKind.wrap .i64 ((IntKind.wrap .i64 ((IntKind.wrap .i64 ((IntKind.wrap .i64 ((IntKind.wrap .i64 ((IntKind.wrap .i64 ((IntKind.wrap .i64 ((IntKind.wrap .i64 ((IntKind.wrap .i64 ((IntKind.wrap .i64 (s1+1))+1))+1))+1))+1))+1))+1))+1))+1))+1)))))then .error (-1)else(bif ((((a0.getD i1 default).Light).Colors) != (zq (IntKind.wrap .i64 ((zpb (((a0.getD i1 default).Light).Group) (IntKind.wrap .i64 ((IntKind.wrap .i64 ((IntKind.wrap .i64 ((IntKind.wrap .i64 ((IntKind.wrap .i64 ((IntKind.wrap .i64 ((IntKind.wrap .i64 ((IntKind.wrap .i64 ((IntKind.wrap .i64 ((IntKind.wrap .i64 (s1+1))+1))+1))+1))+1))+1))+1))+1))+1))+1)))+1))))then .error (-1)else(bif ((((a0.getD i1 default).Light).Period) != (IntKind.wrap .i64 ((IntKind.wrap .i64 ((zpb (((a0.getD i1 default).Light).Group) (IntKind.wrap .i64 ((IntKind.wrap .i64 ((IntKind.wrap .i64 ((IntKind.wrap .i64 ((IntKind.wrap .i64 ((IntKind.wrap .i64 ((IntKind.wrap .i64 ((IntKind.wrap .i64 ((IntKind.wrap .i64 ((IntKind.wrap .i64 (s1+1))+1))+1))+1))+1))+1))+1))+1))+1))+1)))+1))+1)))then .error (-1)else(bif decide ((znc ((a0.getD i1 default).Sectors) (IntKind.wrap .i64 ((IntKind.wrap .i64 ((IntKind.wrap .i64 ((zpb (((a0.getD i1 default).Light).Group) (IntKind.wrap .i64 ((IntKind.wrap .i64 ((IntKind.wrap .i64 ((IntKind.wrap .i64 ((IntKind.wrap .i64 ((IntKind.wrap .i64 ((IntKind.wrap .i64 ((IntKind.wrap .i64 ((IntKind.wrap .i64 ((IntKind.wrap .i64 (s1+1))+1))+1))+1))+1))+1))+1))+1))+1))+1)))+1))+1))+1)))<0)then .error (-1)else(bif (((a0.getD i1 default).Intensity) != (znc ((a0.getD i1 default).Sectors) (IntKind.wrap .i64 ((IntKind.wrap .i64 ((IntKind.wrap .i64 ((zpb (((a0.getD i1 default).Light).Group) (IntKind.wrap .i64 ((IntKind.wrap .i64 ((IntKind.wrap .i64 ((IntKind.wrap .i64 ((IntKind.wrap .i64 ((IntKind.wrap .i64 ((IntKind.wrap .i64 ((IntKind.wrap .i64 ((IntKind.wrap .i64 ((IntKind.wrap .i64 (s1+1))+1))+1))+1))+1))+1))+1))+1))+1))+1)))+1))+1))+1))))then .error (-1)else .ok (IntKind.wrap .i64 ((znc ((a0.getD i1 default).Sectors) (IntKind.wrap .i64 ((IntKind.wrap .i64 ((IntKind.wrap .i64 ((zpb (((a0.getD i1 default).Light).Group) (IntKind.wrap .i64 ((IntKind.wrap .i64 ((IntKind.wrap .i64 ((IntKind.wrap .i64 ((IntKind.wrap .i64 ((IntKind.wrap .i64 ((IntKind.wrap .i64 ((IntKind.wrap .i64 ((IntKind.wrap .i64 ((IntKind.wrap .i64 (s1+1))+1))+1))+1))+1))+1))+1))+1))+1))+1)))+1))+1))+1)))+1))))))))))))))))))
def zid (a0:(List Aid)) (a1:Int):Int:=
 (match yd (yek a0 a1) (a0.length-0) 0 a1 with|.error e=>e|.ok s1=>s1)
namespace N71
theorem DD:DOk Tryz.prog (Go.Ab.DD [(120,dP D_zq),(141,dP D_znc),(161,dP D_zpb)]):=ya yfk.e <| ya yv2.e <| ya y70.e <| ye _
theorem dn:type_of% (And.intro @D_zq.eq_1 <| And.intro @D_znc.eq_1 <| And.intro @D_zpb.eq_1 <| And.intro @ymc <| @yru):=And.intro @D_zq.eq_1 <| And.intro @D_znc.eq_1 <| And.intro @D_zpb.eq_1 <| And.intro @ymc <| @yru
theorem ol:type_of% (And.intro @y2b <| @yhj):=And.intro @y2b <| @yhj
theorem gr {p:Prop} (h:p:=by(grind [yvc,yhj]);first|done|fail):p:=h
theorem o1 {p:Prop} (h:p:=by(first|(exact mrg)|(exact yxm _ _ (by exact mrg))|(exact ygl _ _ (by exact mrg)));first|done|fail):p:=h
set_option maxHeartbeats 4000000 in
set_option maxRecDepth 20000 in
theorem den (a0:(List Aid)) (a1:Int) (hp0:a1≤9223372036854775807):Den Tryz.prog 71 [encL 16 eAid a0,.int .i64 a1] (.int .i64 (zid a0 a1)):=by
 generalize hR:zid a0 a1=r
 unfold zid at hR
 refine di Tryz.func71 Tryz.ntmps71 Tryz.results71 ?_
 intro c hL hc hk
 obtain⟨hL0,hL1,_⟩:=hL
 have hw0:a0.length<9223372036854775808:=Nat.lt_succ_of_le (yf hL0).1
 have hw1:∀ v∈a0,bwAid v:=fun v hv=>yuc v ((yf hL0).2 v hv)
 clear hL0 hL1
 simp only[pars,Nat.zero_add]
 iterate 2 refine rS ?_
 refine AWP.block ?_
 generalize hz1:yd (yek a0 a1) (a0.length-0) 0 a1=z1 at hR
 refine AWP.range (yek a0 a1) (fun i1 s1=>⟨[(0,encL 16 eAid a0),(1,.int .i64 s1),(5,.int .i64 (i1:Int))],[]⟩) (fun i1 s1=>s1≤9223372036854775807) (a0.length) 0 a1 [] hz1 ot wt sm ?_
 clear hz1
 intro i1 s1 hi1 hW1 hz1
 refine rS ?_
 refine AWP.cond rfl (fun hb => ?_) (fun hb => ?_)
 ·have hlt1:i1<a0.length:=ot
  rw[yh hlt1]at hz1;simp only[yek]at hz1
  refine rS ?_
  refine AWP.cond rfl (fun hb => ?_) (fun hb => ?_)
  ·simp only[hb,cond_true]at hz1
   refine rS ?_
   refine AWP.ret ?_
   subst hz1
   dsimp only at hR
   subst hR
   exact es
  ·simp only[hb,cond_false]at hz1
   refine rS ?_
   refine rD 7 ?_
   refine AWP.cond rfl (fun hb => ?_) (fun hb => ?_)
   ·simp only[hb,cond_true]at hz1
    refine rS ?_
    refine AWP.ret ?_
    subst hz1
    dsimp only at hR
    subst hR
    exact es
   ·simp only[hb,cond_false]at hz1
    iterate 2 refine rS ?_
    refine AWP.cond rfl (fun hb => ?_) (fun hb => ?_)
    ·simp only[hb,cond_true]at hz1
     refine rS ?_
     refine AWP.ret ?_
     subst hz1
     dsimp only at hR
     subst hR
     exact es
    ·simp only[hb,cond_false]at hz1
     iterate 2 refine rS ?_
     refine AWP.cond rfl (fun hb => ?_) (fun hb => ?_)
     ·simp only[hb,cond_true]at hz1
      refine rS ?_
      refine AWP.ret ?_
      subst hz1
      dsimp only at hR
      subst hR
      exact es
     ·simp only[hb,cond_false]at hz1
      iterate 2 refine rS ?_
      refine AWP.cond rfl (fun hb => ?_) (fun hb => ?_)
      ·simp only[hb,cond_true]at hz1
       refine rS ?_
       refine AWP.ret ?_
       subst hz1
       dsimp only at hR
       subst hR
       exact es
      ·simp only[hb,cond_false]at hz1
       iterate 2 refine rS ?_
       refine AWP.cond rfl (fun hb => ?_) (fun hb => ?_)
       ·simp only[hb,cond_true]at hz1
        refine rS ?_
        refine AWP.ret ?_
        subst hz1
        dsimp only at hR
        subst hR
        exact es
       ·simp only[hb,cond_false]at hz1
        refine rS ?_
        refine rD 9 ?_
        refine AWP.cond rfl (fun hb => ?_) (fun hb => ?_)
        ·simp only[hb,cond_true]at hz1
         refine rS ?_
         refine AWP.ret ?_
         subst hz1
         dsimp only at hR
         subst hR
         exact es
        ·simp only[hb,cond_false]at hz1
         refine rS ?_
         refine rD 9 ?_
         refine AWP.cond rfl (fun hb => ?_) (fun hb => ?_)
         ·simp only[hb,cond_true]at hz1
          refine rS ?_
          refine AWP.ret ?_
          subst hz1
          dsimp only at hR
          subst hR
          exact es
         ·simp only[hb,cond_false]at hz1
          refine rS ?_
          refine rD 9 ?_
          refine AWP.cond rfl (fun hb => ?_) (fun hb => ?_)
          ·simp only[hb,cond_true]at hz1
           refine rS ?_
           refine AWP.ret ?_
           subst hz1
           dsimp only at hR
           subst hR
           exact es
          ·simp only[hb,cond_false]at hz1
           iterate 2 refine rS ?_
           refine AWP.cond rfl (fun hb => ?_) (fun hb => ?_)
           ·simp only[hb,cond_true]at hz1
            refine rS ?_
            refine AWP.ret ?_
            subst hz1
            dsimp only at hR
            subst hR
            exact es
           ·simp only[hb,cond_false]at hz1
            iterate 3 refine rS ?_
            refine AWP.cond rfl (fun hb => ?_) (fun hb => ?_)
            ·simp only[hb,cond_true]at hz1
             refine rS ?_
             refine AWP.ret ?_
             subst hz1
             dsimp only at hR
             subst hR
             exact es
            ·simp only[hb,cond_false]at hz1
             refine rD 9 ?_
             refine AWP.cond rfl (fun hb => ?_) (fun hb => ?_)
             ·simp only[hb,cond_true]at hz1
              refine rS ?_
              refine AWP.ret ?_
              subst hz1
              dsimp only at hR
              subst hR
              exact es
             ·simp only[hb,cond_false]at hz1
              refine rS ?_
              refine rD 9 ?_
              refine AWP.cond rfl (fun hb => ?_) (fun hb => ?_)
              ·simp only[hb,cond_true]at hz1
               refine rS ?_
               refine AWP.ret ?_
               subst hz1
               dsimp only at hR
               subst hR
               exact es
              ·simp only[hb,cond_false]at hz1
               iterate 2 refine rS ?_
               refine AWP.cond rfl (fun hb => ?_) (fun hb => ?_)
               ·simp only[hb,cond_true]at hz1
                refine rS ?_
                refine AWP.ret ?_
                subst hz1
                dsimp only at hR
                subst hR
                exact es
               ·simp only[hb,cond_false]at hz1
                iterate 3 refine rS ?_
                refine AWP.cond rfl (fun hb => ?_) (fun hb => ?_)
                ·simp only[hb,cond_true]at hz1
                 refine rS ?_
                 refine AWP.ret ?_
                 subst hz1
                 dsimp only at hR
                 subst hR
                 exact es
                ·simp only[hb,cond_false]at hz1
                 refine rS ?_
                 refine AWP.cond rfl (fun hb => ?_) (fun hb => ?_)
                 ·simp only[hb,cond_true]at hz1
                  refine rS ?_
                  refine AWP.ret ?_
                  subst hz1
                  dsimp only at hR
                  subst hR
                  exact es
                 ·simp only[hb,cond_false]at hz1
                  iterate 2 refine rS ?_
                  exact⟨_,[],hlt1,by(exact mrg),hz1,sm⟩
 ·obtain rfl:i1=a0.length:=ot
  rw[yg (Nat.le_refl _)]at hz1;subst hz1;dsimp only at hR
  refine AWP.exit ?_;refine yb ?_
  refine rS ?_
  refine AWP.ret ?_
  subst hR
  exact es
end N71
def D_zid : DF
 | [x0,x1]=>some (.int .i64 (zid (rdL dAid x0) (rdI x1)),false,[wL 16 eAid dAid x0,wI .i64 x1,(rdI x1)≤9223372036854775807])
 | _=>none
theorem yp2:OkD Tryz.prog 71 D_zid:=by unfold D_zid;exact dk N71.den
end Go.Ab

namespace Go.Ab
open Go Go.Proofs
def ykc (x:Aid) (k:Int):Int×Aid:=
 (IntKind.wrap .i64 (((zeb (x.Sectors) (IntKind.wrap .i64 ((IntKind.wrap .i64 ((IntKind.wrap .i64 (((zn ((x.Light).Group) (IntKind.wrap .i64 ((IntKind.wrap .i64 ((IntKind.wrap .i64 ((IntKind.wrap .i64 ((IntKind.wrap .i64 ((IntKind.wrap .i64 ((IntKind.wrap .i64 ((IntKind.wrap .i64 ((IntKind.wrap .i64 ((IntKind.wrap .i64 (k+1))+1))+1))+1))+1))+1))+1))+1))+1))+1))).1)+1))+1))+1))).1)+1),{ Number:=k,Name:=(zq (IntKind.wrap .i64 (k+1))),At:={ X:=IntKind.wrap .i64 ((IntKind.wrap .i64 (k+1))+1),Y:=IntKind.wrap .i64 ((IntKind.wrap .i64 ((IntKind.wrap .i64 (k+1))+1))+1):Point },Height:=IntKind.wrap .i64 ((IntKind.wrap .i64 ((IntKind.wrap .i64 ((IntKind.wrap .i64 (k+1))+1))+1))+1),Mark:={ Kind:=IntKind.wrap .i64 ((IntKind.wrap .i64 ((IntKind.wrap .i64 ((IntKind.wrap .i64 ((IntKind.wrap .i64 (k+1))+1))+1))+1))+1),Colors:=(zq (IntKind.wrap .i64 ((IntKind.wrap .i64 ((IntKind.wrap .i64 ((IntKind.wrap .i64 ((IntKind.wrap .i64 ((IntKind.wrap .i64 (k+1))+1))+1))+1))+1))+1))),Shape:=(zq (IntKind.wrap .i64 ((IntKind.wrap .i64 ((IntKind.wrap .i64 ((IntKind.wrap .i64 ((IntKind.wrap .i64 ((IntKind.wrap .i64 ((IntKind.wrap .i64 (k+1))+1))+1))+1))+1))+1))+1))),Topmark:=(zq (IntKind.wrap .i64 ((IntKind.wrap .i64 ((IntKind.wrap .i64 ((IntKind.wrap .i64 ((IntKind.wrap .i64 ((IntKind.wrap .i64 ((IntKind.wrap .i64 ((IntKind.wrap .i64 (k+1))+1))+1))+1))+1))+1))+1))+1))):Mark },Light:={ Kind:=IntKind.wrap .i64 ((IntKind.wrap .i64 ((IntKind.wrap .i64 ((IntKind.wrap .i64 ((IntKind.wrap .i64 ((IntKind.wrap .i64 ((IntKind.wrap .i64 ((IntKind.wrap .i64 ((IntKind.wrap .i64 (k+1))+1))+1))+1))+1))+1))+1))+1))+1),Group:=(zn ((x.Light).Group) (IntKind.wrap .i64 ((IntKind.wrap .i64 ((IntKind.wrap .i64 ((IntKind.wrap .i64 ((IntKind.wrap .i64 ((IntKind.wrap .i64 ((IntKind.wrap .i64 ((IntKind.wrap .i64 ((IntKind.wrap .i64 ((IntKind.wrap .i64 (k+1))+1))+1))+1))+1))+1))+1))+1))+1))+1))).2,Letter:=(zq ((zn ((x.Light).Group) (IntKind.wrap .i64 ((IntKind.wrap .i64 ((IntKind.wrap .i64 ((IntKind.wrap .i64 ((IntKind.wrap .i64 ((IntKind.wrap .i64 ((IntKind.wrap .i64 ((IntKind.wrap .i64 ((IntKind.wrap .i64 ((IntKind.wrap .i64 (k+1))+1))+1))+1))+1))+1))+1))+1))+1))+1))).1)),Colors:=(zq (IntKind.wrap .i64 (((zn ((x.Light).Group) (IntKind.wrap .i64 ((IntKind.wrap .i64 ((IntKind.wrap .i64 ((IntKind.wrap .i64 ((IntKind.wrap .i64 ((IntKind.wrap .i64 ((IntKind.wrap .i64 ((IntKind.wrap .i64 ((IntKind.wrap .i64 ((IntKind.wrap .i64 (k+1))+1))+1))+1))+1))+1))+1))+1))+1))+1))).1)+1))),Period:=IntKind.wrap .i64 ((IntKind.wrap .i64 (((zn ((x.Light).Group) (IntKind.wrap .i64 ((IntKind.wrap .i64 ((IntKind.wrap .i64 ((IntKind.wrap .i64 ((IntKind.wrap .i64 ((IntKind.wrap .i64 ((IntKind.wrap .i64 ((IntKind.wrap .i64 ((IntKind.wrap .i64 ((IntKind.wrap .i64 (k+1))+1))+1))+1))+1))+1))+1))+1))+1))+1))).1)+1))+1):Character },Sectors:=(zeb (x.Sectors) (IntKind.wrap .i64 ((IntKind.wrap .i64 ((IntKind.wrap .i64 (((zn ((x.Light).Group) (IntKind.wrap .i64 ((IntKind.wrap .i64 ((IntKind.wrap .i64 ((IntKind.wrap .i64 ((IntKind.wrap .i64 ((IntKind.wrap .i64 ((IntKind.wrap .i64 ((IntKind.wrap .i64 ((IntKind.wrap .i64 ((IntKind.wrap .i64 (k+1))+1))+1))+1))+1))+1))+1))+1))+1))+1))).1)+1))+1))+1))).2,Intensity:=((zeb (x.Sectors) (IntKind.wrap .i64 ((IntKind.wrap .i64 ((IntKind.wrap .i64 (((zn ((x.Light).Group) (IntKind.wrap .i64 ((IntKind.wrap .i64 ((IntKind.wrap .i64 ((IntKind.wrap .i64 ((IntKind.wrap .i64 ((IntKind.wrap .i64 ((IntKind.wrap .i64 ((IntKind.wrap .i64 ((IntKind.wrap .i64 ((IntKind.wrap .i64 (k+1))+1))+1))+1))+1))+1))+1))+1))+1))+1))).1)+1))+1))+1))).1):Aid })
theorem ygm (a:List Aid) (k:Int):zhc a k=yrc ykc a k:=by
 unfold zhc
 have:=ybi ykc (yrj a k) (fun i s=>rfl) a [] k
 simp only[List.length_nil,List.nil_append,Nat.sub_zero]at this ⊢
 rw[this]
def aidB (x:Aid):Prop:=x.Light.Group.length≤1048576∧x.Sectors.length≤1048576
theorem ymy (x:Aid) (k:Int) (hx:aidB x) (h0:0≤k) (h1:k≤281474976710656):(ykc x k).1=k+14+x.Light.Group.length+3 * x.Sectors.length:=by
 obtain⟨b1,b2⟩:=hx
 unfold ykc
 simp(disch:=omega) only[wr1]
 have g1:k+1+1+1+1+1+1+1+1+1+1=k+10:=by omega
 rw[g1,zn_k _ _ (by omega) (by omega) (by omega)]
 simp(disch:=omega) only[wr1]
 rw[yke _ _ (by omega) (by omega) (by omega)]
 simp(disch:=omega) only[wr1]
 omega
theorem ywo (L:List Aid) (a1:Int) (j:Nat) (x:Aid) (s:Int) (hx:aidB x) (h0:0≤s) (h1:s≤281474976710656) (e:L.getD j default=(ykc x s).2):yek L a1 j s=.ok (ykc x s).1:=by
 obtain⟨b1,b2⟩:=hx
 simp only[yek,e]
 simp only[ykc]
 simp(disch:=omega) only[wr1]
 have g1:s+1+1+1+1+1+1+1+1+1+1=s+10:=by omega
 simp only[g1]
 have e1:=yk0 x.Light.Group (s+10) (by omega) (by omega) (by omega)
 have e2:=zn_k x.Light.Group (s+10) (by omega) (by omega) (by omega)
 simp only[e1.1,e2]
 simp(disch:=omega) only[wr1]
 have e3:=ywi x.Sectors (s+10+1 * (x.Light.Group.length:Int)+1+1+1) (by omega) (by omega) (by omega)
 have e4:=yke x.Sectors (s+10+1 * (x.Light.Group.length:Int)+1+1+1) (by omega) (by omega) (by omega)
 simp only[e3.1,e4]
 simp(disch:=omega) only[wr1]
 rw[decide_eq_false (show ¬ s+10+1 * (x.Light.Group.length:Int)<0 by omega),decide_eq_false (show ¬ s+10+1 * (x.Light.Group.length:Int)+1+1+1+3 * (x.Sectors.length:Int)<0 by omega)]
 simp only[bne_self_eq_false,cond_false]
theorem ysj (x:Aid) (k:Int) (hx:aidB x) (h0:0≤k) (h1:k≤281474976710656):k≤(ykc x k).1∧(ykc x k).1≤k+4194400:=by
 rw[ymy x k hx h0 h1]
 obtain⟨b1,b2⟩:=hx
 omega
theorem ydp (a:List Aid) (k:Int) (ha:∀ x∈a,aidB x) (hl:a.length≤1048576) (h0:0≤k) (h1:k≤140737488355328):k≤(zhc a k).1∧(zhc a k).1≤k+4194400 * a.length:=by
 rw[ygm]
 exact ykt ykc aidB 4194400 281474976710656 (by omega) ysj a k ha h0 (by omega)
theorem ysn (a:List Aid) (k:Int) (ha:∀ x∈a,aidB x) (hl:a.length≤1048576) (h0:0≤k) (h1:k≤140737488355328):zid (zhc a k).2 k=(zhc a k).1∧¬ (zhc a k).1<0:=by
 refine⟨?_,by have:=ydp a k ha hl h0 h1;omega⟩
 rw[ygm]
 unfold zid
 rw[yyj,Nat.sub_zero]
 rw[yvh ykc (yek (yrc ykc a k).2 k) aidB 4194400 281474976710656 (by omega) ysj a 0 k ha h0 (by omega) (fun j x s hx g0 g1 g2=>by
  have e:(yrc ykc a k).2.getD (0+j) default=(ykc x s).2:=by rw[Nat.zero_add,List.getD_eq_getElem?_getD,g2];rfl
  exact ywo _ _ _ x s hx g0 g1 e)]
end Go.Ab

namespace Go.Ab
open Go Go.Proofs
theorem yag (a:List Aid) (k:Int) (h:k≤9223372036854775807):(zhc a k).1≤9223372036854775807:=by
 unfold zhc
 obtain⟨t,h1,h2⟩:=yu (b:=yrj a k) (fun _ s=>s.1≤9223372036854775807) (k:=a.length-0) (i:=0) (s:=(k,a)) h (by
  intro j u _ _ h
  exact⟨_,rfl,yxd _⟩)
 rw[h1]
 exact h2
theorem y6e (a:List Aid) (k:Int):(zhc a k).2.length=a.length:=by
 unfold zhc
 obtain⟨t,h1,h2⟩:=yu (b:=yrj a k) (fun _ s=>s.2.length=a.length) (k:=a.length-0) (i:=0) (s:=(k,a)) rfl (by
  intro j u _ _ h
  exact⟨_,rfl,by simpa using h⟩)
 rw[h1]
 exact h2
theorem ypd (a:List Aid) (k:Int):subL (zhc a k).2 0 a.length=(zhc a k).2:=by
 rw[← y6e a k];exact yyf _
end Go.Ab

namespace Go.Ab
open Go Go.Proofs
def zlg (a0:(List Item)):Bool:=
 (bif decide ((zzb a0 1048576)<0)then true else(bif ((!(zad ((zgb (zdb a0)).1) ((zjb (zdb a0)).1))) || (((zgb (zdb a0)).2) != ((zjb (zdb a0)).2)))then false else(bif (!(zhd (zdb a0) (zdb a0)))then false else(bif ((decide (((zcb (zdb a0) 1).1)<0) || (!(zad ((zgb (zdb a0)).1) ((zjb (zdb a0)).1)))) || (((zgb (zdb a0)).2) != ((zjb (zdb a0)).2)))then false else(bif decide ((zid ((zhc ((zgb (zdb a0)).1) 1).2) 1)<0)then false else(bif ((zid ((zhc ((zgb (zdb a0)).1) 1).2) 1) != ((zhc ((zgb (zdb a0)).1) 1).1))then false else true))))))
namespace N10
theorem DD:DOk Tryz.prog (Go.Ab.DD [(38,dP D_zhd),(39,dP D_zad),(41,dM [true,false] D_zcb),(67,dP D_zzb),(68,dP D_zjb),(69,dP D_zdb),(70,dP D_zgb),(71,dP D_zid)]):=ya yg0.e <| ya yl2.e <| ya yf2.e <| ya yh3.e <| ya y72.e <| ya yl3.e <| ya y0z.e <| ya yp2.e <| ye _
theorem dn:type_of% (And.intro @D_zhd.eq_1 <| And.intro @D_zad.eq_1 <| And.intro @D_zcb.eq_1 <| And.intro @D_zzb.eq_1 <| And.intro @D_zjb.eq_1 <| And.intro @D_zdb.eq_1 <| And.intro @D_zgb.eq_1 <| And.intro @D_zid.eq_1 <| And.intro @ypd <| And.intro @y9y <| @ypd):=And.intro @D_zhd.eq_1 <| And.intro @D_zad.eq_1 <| And.intro @D_zcb.eq_1 <| And.intro @D_zzb.eq_1 <| And.intro @D_zjb.eq_1 <| And.intro @D_zdb.eq_1 <| And.intro @D_zgb.eq_1 <| And.intro @D_zid.eq_1 <| And.intro @ypd <| And.intro @y9y <| @ypd
theorem ol:type_of% (And.intro @y6e <| And.intro @yym <| @ysy):=And.intro @y6e <| And.intro @yym <| @ysy
theorem gr {p:Prop} (h:p:=by(grind [yag,yym,yag]);first|done|fail):p:=h
theorem o1 {p:Prop} (h:p:=by(first|omega|(with_reducible assumption)|(exact mrg)|(exact yag _ _ (by exact mrg))|((try simp only[ol]);first|(have h9:=hG0 (by assumption);first|exact h9.2|exact h9.1|omega)));first|done|fail):p:=h
set_option maxHeartbeats 4000000 in
set_option maxRecDepth 20000 in
theorem _root_.Go.Ab.zlg_den (a0:(List Item))  : Den Tryz.prog 10 [encL 2 eItem a0] (.bool (zlg a0)):=by
 generalize hR:zlg a0=r
 unfold zlg at hR
 refine y4v G_ok Tryz.func10 (by kernel_rfl) rfl Tryz.ntmps10 (by rw[Tryz.results10]) (by simp) rfl ?_
 intro c u hdp hlit hL hc hk
 obtain⟨hL0,_⟩:=hL
 have hw0:a0.length<9223372036854775808:=Nat.lt_succ_of_le (yf hL0).1
 have hw1:∀ v∈a0,bwItem v:=fun v hv=>ybb v ((yf hL0).2 v hv)
 clear hL0
 simp only[litN,lit1,litM,ydw,litR,ylv,encL,sv,Nat.zero_add,Nat.reduceAdd]at hlit
 simp only[litN,lit1,litM,ydw,encL,sv,pars,Nat.zero_add,Nat.reduceAdd]
 have hf0:=ygp a0 (1048576) (by omega) (by omega) hw0 hw1
 have hG0:decide (zzb a0 (1048576)<0)=false→a0.length≤1048576∧∀ x∈a0,bdItem x:=fun h=>⟨(hf0.2.2 (of_decide_eq_false h)).1,fun x hx=>yww x ((hf0.2.2 (of_decide_eq_false h)).2 x hx)⟩
 have hr1:=yh4 (zdb a0)
 have hr2:=ye6 (zdb a0)
 have hr11:=hr1.1
 have hr12:=hr1.2
 have hr21:=hr2.1
 have hr22:=hr2.2
 iterate 4 refine rS ?_
 refine AWP.cond rfl (fun hb => ?_) (fun hb => ?_)
 ·replace hR:=ct hR
  refine rS ?_
  refine AWP.ret ?_
  subst hR
  exact es
 ·replace hR:=cf hR
  iterate 4 refine rS ?_
  refine AWP.cond rfl (fun hb => ?_) (fun hb => ?_)
  ·replace hR:=ct hR
   refine rS ?_
   refine AWP.ret ?_
   subst hR
   exact es
  ·replace hR:=cf hR
   refine rS ?_
   refine AWP.cond rfl (fun hb => ?_) (fun hb => ?_)
   ·replace hR:=ct hR
    refine rS ?_
    refine AWP.ret ?_
    subst hR
    exact es
   ·replace hR:=cf hR
    iterate 3 refine rS ?_
    refine AWP.cond rfl (fun hb => ?_) (fun hb => ?_)
    ·replace hR:=ct hR
     refine rS ?_
     refine AWP.ret ?_
     subst hR
     exact es
    ·replace hR:=cf hR
     refine rS ?_
     refine AWP.seq ?_
     refine rX 2 (N40.den ((zgb (zdb a0)).1) 1 ot) ?_
     iterate 3 refine rS ?_
     refine AWP.cond rfl (fun hb => ?_) (fun hb => ?_)
     ·replace hR:=ct hR
      refine rS ?_
      refine AWP.ret ?_
      subst hR
      exact es
     ·replace hR:=cf hR
      refine rS ?_
      refine AWP.cond rfl (fun hb => ?_) (fun hb => ?_)
      ·replace hR:=ct hR
       refine rS ?_
       refine AWP.ret ?_
       subst hR
       exact es
      ·replace hR:=cf hR
       iterate 2 refine rS ?_
       refine AWP.cond rfl (fun hb => ?_) (fun hb => ?_)
       ·exfalso;simp_all
       ·refine rS ?_
        iterate 2 refine rS ?_
        refine AWP.cond rfl (fun hb => ?_) (fun hb => ?_)
        ·exfalso;simp_all
        ·refine rS ?_
         refine AWP.cond rfl (fun hb => ?_) (fun hb => ?_)
         ·exfalso;simp_all
         ·refine rS ?_
          refine AWP.ret ?_
          subst hR
          exact es
end N10
end Go.Ab







namespace Go.Ab
open Go Go.Proofs
theorem ygj (a0:List Item) (hl:a0.length<9223372036854775808) (hv:∀ v∈a0,bwItem v):zlg a0=true:=by
 unfold zlg
 have f0:=ygp a0 1048576 (by omega) (by omega) hl hv
 by_cases c0:zzb a0 1048576<0
 ·rw[decide_eq_true c0];rfl
 rw[decide_eq_false c0]
 simp only[cond_false]
 obtain⟨g0,g1⟩:=f0.2.2 c0
 simp only[ysy,y84,yn5]
 obtain⟨e1,e2,e3⟩:=yt3 a0
 rw[e1]
 have hm:=ysn (zjb a0).1 1 (fun v h=>e3 v h) (by omega) (by omega) (by omega)
 have hk:=yb8 a0 1 (by omega) (by omega) (by omega)
 rw[hm.1,decide_eq_false hm.2,decide_eq_false (show ¬ (zcb a0 1).1<0 by omega)]
 simp
end Go.Ab
