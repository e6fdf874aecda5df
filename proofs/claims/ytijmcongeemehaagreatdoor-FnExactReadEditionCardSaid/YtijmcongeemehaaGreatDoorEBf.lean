/- A part of a proof: walks of functions and lemmas of our own. No conditions. -/
import Derived.Test.YtijmcongeemehaaGreatDoorEAl
import Derived.Test.YtijmcongeemehaaGreatDoorEAk
import Derived.Test.YtijmcongeemehaaGreatDoorEBe
import Derived.Test.YtijmcongeemehaaGreatDoorEAq
import Derived.Test.YtijmcongeemehaaGreatDoorEAz
import Derived.Test.YtijmcongeemehaaGreatDoorEBc
import Derived.Test.YtijmcongeemehaaGreatDoorEAp
import Derived.Test.YtijmcongeemehaaGreatDoorEAv
import Derived.Test.YtijmcongeemehaaGreatDoorEAw
import Derived.Test.YtijmcongeemehaaGreatDoorEAu
import Derived.Test.YtijmcongeemehaaGreatDoorEBa
import Derived.Test.YtijmcongeemehaaGreatDoorEAn
set_option linter.unusedSectionVars false
set_option linter.unusedVariables false
set_option linter.unusedSimpArgs false
set_option maxHeartbeats 1000000
namespace Go.Ab
open Go Go.Proofs
def yjj (a0:(List UInt8)) (i1:Nat) (s1:List Aid):Except ((Edition×Int×Int)) (List Aid):=
 (bif (!((zcf ((zb a0 [10]).getD (1+i1) default)).2))then .error ({ Number:=0,Day:=0,Aids:=[]:Edition },IntKind.wrap .i64 ((i1:Int)+2),9)else(bif (decide (0<(i1:Int)) && decide ((((zcf ((zb a0 [10]).getD (1+i1) default)).1).Number)<=((s1.getD ((IntKind.wrap .i64 ((i1:Int)-1)).toNat) default).Number)))then .error ({ Number:=0,Day:=0,Aids:=[]:Edition },IntKind.wrap .i64 ((i1:Int)+2),7)else(bif ((s1.length:Int) == 24)then .error ({ Number:=0,Day:=0,Aids:=[]:Edition },IntKind.wrap .i64 ((i1:Int)+2),5)else .ok (s1++[(zcf ((zb a0 [10]).getD (1+i1) default)).1]))))
def zfb (a0:(List UInt8)):(Edition×Int×Int):=
 (bif (decide ((IntKind.wrap .i64 (((zb a0 [10]).length:Int)-2))<1) || (((zb a0 [10]).getD ((IntKind.wrap .i64 ((IntKind.wrap .i64 (((zb a0 [10]).length:Int)-2))+1)).toNat) default) != []))then({ Number:=0,Day:=0,Aids:=[]:Edition },0,11)else(bif (((zb a0 [10]).getD ((IntKind.wrap .i64 (((zb a0 [10]).length:Int)-2)).toNat) default) != (znf (a0.take ((IntKind.wrap .i64 ((IntKind.wrap .i64 ((a0.length:Int)-(((zb a0 [10]).getD ((IntKind.wrap .i64 (((zb a0 [10]).length:Int)-2)).toNat) default).length:Int)))-1)).toNat))))then({ Number:=0,Day:=0,Aids:=[]:Edition },0,10)else(bif (!((zec ((zb a0 [10]).getD 0 default) (IntKind.wrap .i64 ((IntKind.wrap .i64 (((zb a0 [10]).length:Int)-2))-1))).2))then({ Number:=0,Day:=0,Aids:=[]:Edition },1,9)else(match yd (yjj a0) (((IntKind.wrap .i64 (((zb a0 [10]).length:Int)-2)).toNat-1)-0) 0 (((zec ((zb a0 [10]).getD 0 default) (IntKind.wrap .i64 ((IntKind.wrap .i64 (((zb a0 [10]).length:Int)-2))-1))).1).Aids)with|.error e=>e|.ok s1=>({ Number:=((zec ((zb a0 [10]).getD 0 default) (IntKind.wrap .i64 ((IntKind.wrap .i64 (((zb a0 [10]).length:Int)-2))-1))).1).Number,Day:=((zec ((zb a0 [10]).getD 0 default) (IntKind.wrap .i64 ((IntKind.wrap .i64 (((zb a0 [10]).length:Int)-2))-1))).1).Day,Aids:=s1:Edition },0,0)))))
namespace N34
theorem DD:DOk Tryz.prog (Go.Ab.DD [(28,dP D_zcf),(80,dP D_zb),(97,dP D_znf),(98,dP D_zec)]):=ya y90.e <| ya yri.e <| ya yx4.e <| ya yc3.e <| ye _
theorem dn:type_of% (And.intro @D_zcf.eq_1 <| And.intro @D_zb.eq_1 <| And.intro @D_znf.eq_1 <| @D_zec.eq_1):=by and_intros<;>intros<;>rfl
theorem o0 {p:Prop} (h:p:=by(first|(have h9:=y88 (by assumption) (by omega);have h8:=yj5 hp0 h9;have q1:=e1 (1+i1);(repeat' with_reducible apply And.intro)<;>first|with_reducible assumption|omega|(intros;first|with_reducible assumption|omega|(rename_i hg9;have hg9:=of_decide_eq_false hg9;omega)))|(have h9:=y88 (by assumption) (by omega);have h8:=yj5 hp0 h9;(repeat' with_reducible apply And.intro)<;>first|with_reducible assumption|omega|(intros;first|with_reducible assumption|omega|(rename_i hg9;have hg9:=of_decide_eq_false hg9;omega)))|((repeat' with_reducible apply And.intro)<;>first|with_reducible assumption|omega|(intros;first|with_reducible assumption|omega|(rename_i hg9;have hg9:=of_decide_eq_false hg9;omega))));first|done|fail):p:=h
theorem o2 {p:Prop} (h:p:=by(first|((repeat' with_reducible apply And.intro)<;>first|(simp only[List.length_append,List.length_singleton];(first|done|fail))|(rw[IntKind.wrap_i64];omega)|(intro j hj;by_cases hji:j<s1.length;(focus(simp only[ycv hji,yu4 hji,cond_true];first|(first|done|fail)|with_reducible rfl));(have e0:j-s1.length=0:=by omega);(simp only[yvu hji hj,yd4 hji,cond_false,e0,elt,borrowL,borrow];first|(first|done|fail)|with_reducible rfl))|decide));first|done|fail):p:=h
set_option maxHeartbeats 4000000 in
set_option maxRecDepth 20000 in
theorem den (a0:(List UInt8)) (hb0:a0.length<1099511627776) (hp0:a0.length<=1048576):Den Tryz.prog 34 [.str a0] (.tup [.agg (yec ((zfb a0).1)),.int .i64 ((zfb a0).2.1),.int .i64 ((zfb a0).2.2)]):=by
 generalize hR:zfb a0=r;unfold zfb at hR;refine di Tryz.func34 Tryz.ntmps34 Tryz.results34 ?_;intro c hL hc hk;obtain⟨hL0,_⟩:=hL;have hw0:a0.length<9223372036854775808:=Nat.lt_succ_of_le hL0;clear hL0;simp only[pars,Nat.zero_add];have e1:=fun i=>yoo a0 10 i
 have e2:=ylv a0 10;have e10:=e1 0;have hcl:=fun s=>yto s
 have e1w:=e1 ((IntKind.wrap .i64 (((zb a0 [10]).length:Int)-2)).toNat);have w9:(IntKind.wrap .i64 (((zb a0 [10]).length:Int)-2))=((zb a0 [10]).length:Int)-2:=(by rw[IntKind.wrap_i64];omega)
 have w10:(IntKind.wrap .i64 ((IntKind.wrap .i64 (((zb a0 [10]).length:Int)-2))+1))=((zb a0 [10]).length:Int)-1:=(by rw[w9,IntKind.wrap_i64];omega)
 have w11:(IntKind.wrap .i64 ((IntKind.wrap .i64 (((zb a0 [10]).length:Int)-2))-1))=((zb a0 [10]).length:Int)-3:=(by rw[w9,IntKind.wrap_i64];omega)
 iterate 4 refine rS ?_
 refine AWP.cond rfl (fun hb => ?_) (fun hb => ?_)
 ·replace hR:=ct hR
  refine rS ?_;refine AWP.ret ?_;subst hR;exact es
 ·replace hR:=cf hR
  refine rS ?_;refine rD 6 ?_;refine AWP.cond rfl (fun hb => ?_) (fun hb => ?_)
  ·replace hR:=ct hR
   refine rS ?_;refine AWP.ret ?_;subst hR;exact es
  ·replace hR:=cf hR
   iterate 2 refine rS ?_
   refine AWP.cond rfl (fun hb => ?_) (fun hb => ?_)
   ·replace hR:=ct hR
    refine rS ?_;refine AWP.ret ?_;subst hR;exact es
   ·replace hR:=cf hR
    refine rS ?_;refine AWP.block ?_;generalize hz1:yd (yjj a0) (((IntKind.wrap .i64 (((zb a0 [10]).length:Int)-2)).toNat-1)-0) 0 (((zec ((zb a0 [10]).getD 0 default) (IntKind.wrap .i64 ((IntKind.wrap .i64 (((zb a0 [10]).length:Int)-2))-1))).1).Aids)=z1 at hR;refine AWP.range (yjj a0) (fun i1 s1=>⟨[(2,.ptr 0 0),(8,.ptr 1 0),(64,.ref 3 1 1 ((IntKind.wrap .i64 (((zb a0 [10]).length:Int)-2)).toNat-1)),(65,.int .i64 ((IntKind.wrap .i64 (((zb a0 [10]).length:Int)-2)).toNat-1:Int)),(66,.int .i64 (i1:Int))],[.box [.int .i64 0,.int .i64 0,.nils],.box [.int .i64 (((zec ((zb a0 [10]).getD 0 default) (IntKind.wrap .i64 ((IntKind.wrap .i64 (((zb a0 [10]).length:Int)-2))-1))).1).Number),.int .i64 (((zec ((zb a0 [10]).getD 0 default) (IntKind.wrap .i64 ((IntKind.wrap .i64 (((zb a0 [10]).length:Int)-2))-1))).1).Day),.ref 2 16 0 s1.length],.arr 59 16 s1.length (fun j=>ybi (s1.getD j default)),.arr 9 1 (zb a0 [10]).length (fun j=>eS ((zb a0 [10]).getD j default))]⟩) (fun i1 s1=>s1.length<=(((zec ((zb a0 [10]).getD 0 default) (IntKind.wrap .i64 ((IntKind.wrap .i64 (((zb a0 [10]).length:Int)-2))-1))).1).Aids).length+1 * i1/\s1.length=i1/\s1.length<=24) (((IntKind.wrap .i64 (((zb a0 [10]).length:Int)-2)).toNat-1)) 0 (((zec ((zb a0 [10]).getD 0 default) (IntKind.wrap .i64 ((IntKind.wrap .i64 (((zb a0 [10]).length:Int)-2))-1))).1).Aids) [0,3,2,1] hz1 ot (by(simp only[yn0];simp)) sm ?_;clear hz1;intro i1 s1 hi1 hW1 hz1;refine rS ?_;refine AWP.seq ?_;refine AWP.cond rfl (fun hb => ?_) (fun hb => ?_)
    ·have hlt1:i1<((IntKind.wrap .i64 (((zb a0 [10]).length:Int)-2)).toNat-1):=ot
     rw[yg hlt1]at hz1;simp only[yjj]at hz1;iterate 4 refine rS ?_
     refine AWP.cond rfl (fun hb => ?_) (fun hb => ?_)
     ·simp only[hb,cond_true]at hz1
      refine rS ?_;refine AWP.ret ?_;subst hz1;dsimp only at hR;subst hR;exact es
     ·simp only[hb,cond_false]at hz1
      refine AWP.seq ?_;refine AWP.regP mixed G_ok DD hc 15 [0,1,2,3,4,5,6,7,8,9,10,11,12,13] (.alt 14 [] [5,6,7,8,9] .leaf .stop) (by kernel_rfl) (by kernel_rfl) (by kernel_rfl) (fun K hK => ?_);simp only[ymg,runN,runP,yrb,nthO,ea,absV,absVL,cput,gv,sv,dn,reduceCtorEq,reduceIte,Nat.reduceBEq,Nat.reduceAdd,Nat.reduceEqDiff,Nat.reduceLT,Nat.reduceLeDiff,Nat.reduceMul,Nat.reduceSub,BEq.rfl,beq_self_eq_true,Int.reduceToNat];repeat' apply And.intro
      all_goals first|refine hK _ ?_|exact ot
      all_goals clear hK K
      refine AWP.cond rfl (fun hb => ?_) (fun hb => ?_)
      ·simp only[hb,cond_true]at hz1
       refine rS ?_;refine AWP.ret ?_;subst hz1;dsimp only at hR;subst hR;exact es
      ·simp only[hb,cond_false]at hz1
       refine rS ?_;refine AWP.cond rfl (fun hb => ?_) (fun hb => ?_)
       ·simp only[hb,cond_true]at hz1
        refine rS ?_;refine AWP.ret ?_;subst hz1;dsimp only at hR;subst hR;exact es
       ·simp only[hb,cond_false]at hz1
        iterate 2 refine rS ?_
        exact⟨_,[0,1,8,3],hlt1,by(have h24:=yyz (by assumption);simp only[List.length_append,List.length_cons,List.length_nil];omega),hz1,sm⟩
    ·obtain rfl:i1=((IntKind.wrap .i64 (((zb a0 [10]).length:Int)-2)).toNat-1):=ot
     rw[yh (Nat.le_refl _)]at hz1;subst hz1;dsimp only at hR;refine AWP.exit ?_;refine yb ?_;refine rS ?_;refine AWP.ret ?_;subst hR;exact es
end N34
def D_zfb : DF
 | [x0]=>some (.tup [.agg (yec ((zfb (rdS x0)).1)),.int .i64 ((zfb (rdS x0)).2.1),.int .i64 ((zfb (rdS x0)).2.2)],false,[wS x0,(rdS x0).length<1099511627776,(rdS x0).length<=1048576])
 | _=>none
theorem yv0:OkD Tryz.prog 34 D_zfb:=by unfold D_zfb;exact dk N34.den
def ymj (a0:(List UInt8)) (i1:Nat) (s1:List Aid):Except ((Edition×Int×Int)) (List Aid):=
 (bif (!((zbd ((za a0 10).getD i1 default)).2))then .error ({ Number:=0,Day:=0,Aids:=[]:Edition },IntKind.wrap .i64 ((i1:Int)+1),9)else(bif (decide (0<(s1.length:Int)) && decide ((((zbd ((za a0 10).getD i1 default)).1).Number)<=((s1.getD ((IntKind.wrap .i64 ((s1.length:Int)-1)).toNat) default).Number)))then .error ({ Number:=0,Day:=0,Aids:=[]:Edition },IntKind.wrap .i64 ((i1:Int)+1),7)else(bif ((s1.length:Int) == 24)then .error ({ Number:=0,Day:=0,Aids:=[]:Edition },IntKind.wrap .i64 ((i1:Int)+1),5)else .ok (s1++[(zbd ((za a0 10).getD i1 default)).1]))))
def zxb (a0:(List UInt8)):(Edition×Int×Int):=
 (bif (decide (((za a0 10).length:Int)<3) || (((za a0 10).getD ((IntKind.wrap .i64 (((za a0 10).length:Int)-1)).toNat) default) != []))then({ Number:=0,Day:=0,Aids:=[]:Edition },0,11)else(bif ((((za a0 10).getD ((IntKind.wrap .i64 (((za a0 10).length:Int)-2)).toNat) default)++[10]) != (([99,104,101,99,107,32]++(zj (zlb (a0.take ((IntKind.wrap .i64 ((a0.length:Int)-((((za a0 10).getD ((IntKind.wrap .i64 (((za a0 10).length:Int)-2)).toNat) default)++[10]).length:Int))).toNat)) 65535)))++[10]))then({ Number:=0,Day:=0,Aids:=[]:Edition },0,10)else(bif ((((za ((za a0 10).getD 0 default) 32).length:Int) != 4) || (((za ((za a0 10).getD 0 default) 32).getD 0 default) != [101,100,105,116,105,111,110]))then({ Number:=0,Day:=0,Aids:=[]:Edition },1,9)else(bif (((((!((zf ((za ((za a0 10).getD 0 default) 32).getD 1 default)).2)) || (!((zsd ((za ((za a0 10).getD 0 default) 32).getD 2 default)).2))) || (!((zf ((za ((za a0 10).getD 0 default) 32).getD 3 default)).2))) || (!(zi ((zf ((za ((za a0 10).getD 0 default) 32).getD 1 default)).1) 1 9999))) || (((zf ((za ((za a0 10).getD 0 default) 32).getD 3 default)).1) != (IntKind.wrap .i64 (((za a0 10).length:Int)-3))))then({ Number:=0,Day:=0,Aids:=[]:Edition },1,9)else(match yd (ymj a0) ((IntKind.wrap .i64 (((za a0 10).length:Int)-2)).toNat-1) 1 ([]:List Aid)with|.error e=>e|.ok s1=>({ Number:=(zf ((za ((za a0 10).getD 0 default) 32).getD 1 default)).1,Day:=(zsd ((za ((za a0 10).getD 0 default) 32).getD 2 default)).1,Aids:=s1:Edition },0,0))))))
namespace N33
theorem DD:DOk Tryz.prog (Go.Ab.DD [(90,dP D_za),(91,dP D_zj),(92,dP D_zlb),(93,dP D_zf),(94,dP D_zsd),(95,dP D_zi),(96,dP D_zbd)]):=ya yeh.e <| ya yyn.e <| ya yc1.e <| ya ycm.e <| ya yu0.e <| ya yce.e <| ya yo1.e <| ye _
theorem dn:type_of% (And.intro @D_za.eq_1 <| And.intro @D_zj.eq_1 <| And.intro @D_zlb.eq_1 <| And.intro @D_zf.eq_1 <| And.intro @D_zsd.eq_1 <| And.intro @D_zi.eq_1 <| @D_zbd.eq_1):=by and_intros<;>intros<;>rfl
theorem ol:type_of% (@zi.eq_1):=@zi.eq_1
theorem gr {p:Prop} (h:p:=by(grind [y3,y4b]);first|done|fail):p:=h
theorem o0 {p:Prop} (h:p:=by(first|(have h9:=yj6 (by assumption);have h8:=yr5 hp0 h9;have w9:(IntKind.wrap .i64 (((za a0 10).length:Int)-2))=((za a0 10).length:Int)-2:=(by rw[IntKind.wrap_i64];omega);have q1:=e1 i1;(repeat' with_reducible apply And.intro)<;>first|with_reducible assumption|omega|(intros;first|with_reducible assumption|omega))|(have h9:=yj6 (by assumption);have h7:=yr9 (by assumption);(repeat' with_reducible apply And.intro)<;>first|with_reducible assumption|omega|(intros;first|with_reducible assumption|omega))|(have h9:=yj6 (by assumption);have h8:=yr5 hp0 h9;have w9:(IntKind.wrap .i64 (((za a0 10).length:Int)-2))=((za a0 10).length:Int)-2:=(by rw[IntKind.wrap_i64];omega);(repeat' with_reducible apply And.intro)<;>first|with_reducible assumption|omega|(intros;first|with_reducible assumption|omega))|((repeat' with_reducible apply And.intro)<;>first|with_reducible assumption|omega|(intros;first|with_reducible assumption|omega)));first|done|fail):p:=h
theorem o2 {p:Prop} (h:p:=by(first|((repeat' with_reducible apply And.intro)<;>first|(simp only[List.length_append,List.length_singleton];(first|done|fail))|(rw[IntKind.wrap_i64];omega)|(intro j hj;by_cases hji:j<s1.length;(focus(simp only[ycv hji,yu4 hji,cond_true];first|(first|done|fail)|with_reducible rfl));(have e0:j-s1.length=0:=by omega);(simp only[yvu hji hj,yd4 hji,cond_false,e0,elt,borrowL,borrow];first|(first|done|fail)|with_reducible rfl))|decide));first|done|fail):p:=h
set_option maxHeartbeats 4000000 in
set_option maxRecDepth 20000 in
theorem den (a0:(List UInt8)) (hb0:a0.length<1099511627776) (hp0:a0.length<=1048576):Den Tryz.prog 33 [.str a0] (.tup [.agg (yec ((zxb a0).1)),.int .i64 ((zxb a0).2.1),.int .i64 ((zxb a0).2.2)]):=by
 generalize hR:zxb a0=r;unfold zxb at hR;refine di Tryz.func33 Tryz.ntmps33 Tryz.results33 ?_;intro c hL hc hk;obtain⟨hL0,_⟩:=hL;have hw0:a0.length<9223372036854775808:=Nat.lt_succ_of_le hL0;clear hL0;simp only[pars,Nat.zero_add];have e1:=fun i=>yed a0 10 10 rfl hp0 i
 have e2:=yjy a0 10 10 rfl hp0;have e10:=e1 0;have e4:=fun i=>yed ((za a0 10).getD 0 default) 32 32 rfl (by omega) i
 have e40:=e4 0;have e41:=e4 1;have e42:=e4 2;have e43:=e4 3;have hcb:=yv7 (List.take ((IntKind.wrap .i64 ((a0.length:Int)-((((za a0 10).getD ((IntKind.wrap .i64 (((za a0 10).length:Int)-2)).toNat) default)++[10]).length:Int))).toNat) a0);have hcb1:=hcb.1;have hcb2:=hcb.2.1;have hcb3:=hcb.2.2;have e1w:=e1 ((IntKind.wrap .i64 (((za a0 10).length:Int)-2)).toNat);iterate 4 refine rS ?_
 refine AWP.cond rfl (fun hb => ?_) (fun hb => ?_)
 ·replace hR:=ct hR
  refine rS ?_;refine AWP.ret ?_;subst hR;exact es
 ·replace hR:=cf hR
  iterate 3 refine rS ?_
  refine AWP.cond rfl (fun hb => ?_) (fun hb => ?_)
  ·replace hR:=ct hR
   refine rS ?_;refine AWP.ret ?_;subst hR;exact es
  ·replace hR:=cf hR
   iterate 2 refine rS ?_
   refine AWP.cond rfl (fun hb => ?_) (fun hb => ?_)
   ·replace hR:=ct hR
    refine rS ?_;refine AWP.ret ?_;subst hR;exact es
   ·replace hR:=cf hR
    iterate 4 refine rS ?_
    refine AWP.cond rfl (fun hb => ?_) (fun hb => ?_)
    ·replace hR:=ct hR
     refine rS ?_;refine AWP.ret ?_;subst hR;exact es
    ·replace hR:=cf hR
     iterate 2 refine rS ?_
     refine AWP.block ?_;refine AWP.nilB 3 2 59 16 (fun _=>[]) rfl rfl ?_;try simp only[ea,absV,absVL,cput,gv,sv,dn,reduceCtorEq,reduceIte,Nat.reduceBEq,Nat.reduceAdd,Nat.reduceEqDiff,Nat.reduceLT,Nat.reduceLeDiff,Nat.reduceMul,Nat.reduceSub,BEq.rfl,beq_self_eq_true,Int.reduceToNat];generalize hz1:yd (ymj a0) ((IntKind.wrap .i64 (((za a0 10).length:Int)-2)).toNat-1) 1 ([]:List Aid)=z1 at hR;refine AWP.range (ymj a0) (fun i1 s1=>⟨[(2,.ptr 0 0),(5,.ref 1 1 0 ((za a0 10).length)),(6,.int .i64 ((za a0 10).length:Int)),(16,.ptr 2 0),(17,.int .i64 (i1:Int))],[.box [.int .i64 0,.int .i64 0,.nils],.arr 9 1 (za a0 10).length (fun j=>eS ((za a0 10).getD j default)),.box [.int .i64 ((zf ((za ((za a0 10).getD 0 default) 32).getD 1 default)).1),.int .i64 ((zsd ((za ((za a0 10).getD 0 default) 32).getD 2 default)).1),.ref 3 16 0 s1.length],.arr 59 16 s1.length (fun j=>ybi (s1.getD j default))]⟩) (fun i1 s1=>1<=i1/\s1.length<=([]:List Aid).length+1 * i1/\s1.length+1=i1/\s1.length<=24) ((IntKind.wrap .i64 (((za a0 10).length:Int)-2)).toNat) 1 ([]:List Aid) [0,1,3,4] hz1 ot wt sm ?_;clear hz1;intro i1 s1 hi1 hW1 hz1;refine rS ?_;refine AWP.cond rfl (fun hb => ?_) (fun hb => ?_)
     ·have hlt1:i1<(IntKind.wrap .i64 (((za a0 10).length:Int)-2)).toNat:=ot
      rw[yg hlt1]at hz1;simp only[ymj]at hz1;iterate 2 refine rS ?_
      refine AWP.cond rfl (fun hb => ?_) (fun hb => ?_)
      ·simp only[hb,cond_true]at hz1
       refine rS ?_;refine AWP.ret ?_;subst hz1;dsimp only at hR;subst hR;exact es
      ·simp only[hb,cond_false]at hz1
       refine rD 18 ?_;refine AWP.cond rfl (fun hb => ?_) (fun hb => ?_)
       ·simp only[hb,cond_true]at hz1
        refine rS ?_;refine AWP.ret ?_;subst hz1;dsimp only at hR;subst hR;exact es
       ·simp only[hb,cond_false]at hz1
        refine rS ?_;refine AWP.cond rfl (fun hb => ?_) (fun hb => ?_)
        ·simp only[hb,cond_true]at hz1
         refine rS ?_;refine AWP.ret ?_;subst hz1;dsimp only at hR;subst hR;exact es
        ·simp only[hb,cond_false]at hz1
         iterate 2 refine rS ?_
         exact⟨_,[0,1,2,8],hlt1,by(have h24:=yyz (by assumption);simp only[List.length_append,List.length_cons,List.length_nil];omega),hz1,sm⟩
     ·obtain rfl:i1=(IntKind.wrap .i64 (((za a0 10).length:Int)-2)).toNat:=ot
      rw[yh (Nat.le_refl _)]at hz1;subst hz1;dsimp only at hR;refine AWP.exit ?_;refine yb ?_;refine rS ?_;refine AWP.ret ?_;subst hR;exact es
end N33
def D_zxb : DF
 | [x0]=>some (.tup [.agg (yec ((zxb (rdS x0)).1)),.int .i64 ((zxb (rdS x0)).2.1),.int .i64 ((zxb (rdS x0)).2.2)],false,[wS x0,(rdS x0).length<1099511627776,(rdS x0).length<=1048576])
 | _=>none
theorem y13:OkD Tryz.prog 33 D_zxb:=by unfold D_zxb;exact dk N33.den
theorem yh8 (a b:List UInt8):((a++[10]) != (b++[10]))=(a != b):=by
 by_cases h:a=b
 ·subst h;simp
 ·rw[bne_iff_ne.2 h,bne_iff_ne.2]
  intro e;exact h (List.append_cancel_right e)
def EdE (e f:Edition×Int×Int):Prop:=e=f/\e.1.Aids=[]
def y20 (v:Aid):Prop:=(v.Light.Group.length<=4/\v.Sectors.length<=12)/\bdAid v
theorem y26 (s:List UInt8) (hs:s.length<=1048576) (K:Nat) (hK:K<=2000000) :
  (∃ e f,yd (yjj s) K 0 []=.error e/\yd (ymj s) K 1 []=.error f/\EdE e f) \/
  ∃ u v,yd (yjj s) K 0 []=.ok u/\yd (ymj s) K 1 []=.ok v/\(v=u/\u.length=K/\u.length<=24/\∀ w∈u,y20 w):=by
 have:=yvm (b1:=yjj s) (b2:=ymj s) (fun i u v=>v=u/\u.length=i/\u.length<=24/\∀ w∈u,y20 w) EdE 1 (k:=K) (i:=0) (s:=[]) (t:=[]) ⟨rfl,rfl,by simp,by simp⟩ (fun j u v _ hj hR=>by
  obtain⟨hvu,hu,h24,hB⟩:=hR;subst v;unfold yjj ymj;rw[ykp,yng s 10 10 rfl hs,Nat.add_comm 1 j];have hl:=yhc (l:=yf 10 s) (fun x h=>by have:=(yu 10 s).2 x h;omega) (j+1);rw[ygx _ hl];have hg:=ypz ((yf 10 s).getD (j+1) default);have hbd:=yox _ hl;have hi:IntKind.wrap .i64 ((j:Int)+2)=(j:Int)+2:=by rw[IntKind.wrap_i64];omega
  have hi2:IntKind.wrap .i64 (((j+1:Nat):Int)+1)=(j:Int)+2:=by rw[IntKind.wrap_i64];omega
  have hi3:(u.length:Int)=(j:Int):=by omega
  rw[hi,hi2,hi3];generalize zbd ((yf 10 s).getD (j+1) default)=r at hg hbd
  cases(!r.2)with
  | true=>exact .inl ⟨_,_,rfl,rfl,rfl,rfl⟩
  | false=>
   simp only[cond_false]
   cases(decide (0<(j:Int)) && decide (r.1.Number<=(u.getD ((IntKind.wrap .i64 ((j:Int)-1)).toNat) default).Number))with
   | true=>exact .inl ⟨_,_,rfl,rfl,rfl,rfl⟩
   | false=>
    simp only[cond_false]
    cases h:((j:Int) == 24)with
    | true=>exact .inl ⟨_,_,rfl,rfl,rfl,rfl⟩
    | false=>
     refine .inr ⟨_,_,rfl,rfl,rfl,by rw[List.length_append,List.length_singleton,hu],?_,?_⟩
     ·rw[beq_eq_false_iff_ne]at h
      rw[List.length_append,List.length_singleton];omega
     ·intro w hw
      rcases List.mem_append.1 hw with hw|hw
      ·exact hB w hw
      ·rw[List.mem_singleton]at hw
       subst hw
       exact⟨hg,hbd⟩)
 simpa using this
theorem yai (s:List UInt8) (hs:s.length<=1048576):zfb s=zxb s/\(zfb s).1.Aids.length<=24/\∀ v∈(zfb s).1.Aids,y20 v:=by
 have hz:(({ Number:=0,Day:=0,Aids:=[]:Edition }).Aids.length<=24)/\∀ v∈({ Number:=0,Day:=0,Aids:=[]:Edition }).Aids,y20 v:=⟨by simp,by simp⟩
 have hn:=(yu 10 s).1;unfold zfb zxb;rw[ykp,yng s 10 10 rfl hs];have w1:IntKind.wrap .i64 (((yf 10 s).length:Int)-2)=((yf 10 s).length:Int)-2:=by rw[IntKind.wrap_i64];omega
 have w2:IntKind.wrap .i64 (((yf 10 s).length:Int)-2+1)=((yf 10 s).length:Int)-1:=by rw[IntKind.wrap_i64];omega
 have w3:IntKind.wrap .i64 (((yf 10 s).length:Int)-1)=((yf 10 s).length:Int)-1:=by rw[IntKind.wrap_i64];omega
 have w4:IntKind.wrap .i64 (((yf 10 s).length:Int)-2-1)=((yf 10 s).length:Int)-3:=by rw[IntKind.wrap_i64];omega
 have w5:IntKind.wrap .i64 (((yf 10 s).length:Int)-3)=((yf 10 s).length:Int)-3:=by rw[IntKind.wrap_i64];omega
 have hd1:decide (((yf 10 s).length:Int)-2<1)=decide (((yf 10 s).length:Int)<3):=by by_cases h:((yf 10 s).length:Int)<3<;>simp<;>omega
 rw[w1,w2,w3,w4,w5,hd1]
 cases hA:(decide (((yf 10 s).length:Int)<3) || ((yf 10 s).getD ((((yf 10 s).length:Int)-1).toNat) default != []))with
 | true=>exact⟨rfl,hz⟩
 | false=>
  rw[Bool.or_eq_false_iff]at hA;have hn3:3<=(yf 10 s).length:=by have:=of_decide_eq_false hA.1;omega
  have hlt:=y6l 10 s (by omega) ((((yf 10 s).length:Int)-2).toNat);simp only[cond_false];generalize hT:(yf 10 s).getD ((((yf 10 s).length:Int)-2).toNat) default=T at hlt;have q1:IntKind.wrap .i64 ((s.length:Int)-(T.length:Int))=(s.length:Int)-(T.length:Int):=by rw[IntKind.wrap_i64];omega
  have q2:IntKind.wrap .i64 ((s.length:Int)-(T.length:Int)-1)=(s.length:Int)-(T.length:Int)-1:=by rw[IntKind.wrap_i64];omega
  have q3:IntKind.wrap .i64 ((s.length:Int)-((T++[10]).length:Int))=(s.length:Int)-(T.length:Int)-1:=by rw[List.length_append,List.length_singleton,IntKind.wrap_i64];omega
  rw[q1,q2,q3,yh8]
  have hck:∀ b:List UInt8,znf b=[99,104,101,99,107,32]++(zj (zlb b 65535)):=fun b=>by
   have hc:=ywv b;unfold znf;rw[y15,y0f _ (by omega) (by omega)];rfl
  rw[hck]
  cases(T != [99,104,101,99,107,32]++(zj (zlb (s.take ((s.length:Int)-(T.length:Int)-1).toNat) 65535)))with
  | true=>exact⟨rfl,hz⟩
  | false=>
   simp only[cond_false];have hl0:=yhc (l:=yf 10 s) (fun x h=>by have:=(yu 10 s).2 x h;omega) 0;generalize (yf 10 s).getD 0 default=line at hl0;rw[yng line 32 32 rfl hl0];generalize hk:((yf 10 s).length:Int)-3=k;have hk0:0<=k:=by omega
   have hk1:k<=2000000:=by omega
   by_cases hh:∃ N D,HeadOk line k N D
   ·obtain⟨N,D,h⟩:=hh
    obtain⟨g1,g2,g3⟩:=h.spec hk0 hk1;unfold yif at g1;rw[Bool.or_eq_false_iff]at g1;rw[h.impl,g1.1,g1.2,g2,g3];simp only[Bool.not_true,cond_false];have e1:(((yf 10 s).length:Int)-2).toNat-1=k.toNat:=by omega
    rw[e1,Nat.sub_zero];rcases y26 s hs k.toNat (by omega)with⟨e,f,h1,h2,h3,h4⟩|⟨u,v,h1,h2,h3,h4,h5,h6⟩
    ·rw[h1,h2,h3]
     rw[h3]at h4;exact⟨rfl,by simp only;rw[h4];exact⟨by simp,by simp⟩⟩
    ·rw[h1,h2,h3]
     exact⟨rfl,h5,h6⟩
   ·have e1:(zec line k).2=false:=by
     cases e:(zec line k).2 with
     | false=>rfl
     | true=>exact absurd (ymt hl0 e) hh
    have e2:yif line k=true:=by
     cases e:yif line k with
     | true=>rfl
     | false=>exact absurd (yts hl0 e) hh
    rw[e1];unfold yif at e2;rw[Bool.or_eq_true]at e2;simp only[Bool.not_false,cond_true];refine⟨?_,hz⟩;rcases e2 with e2|e2
    ·rw[e2];rfl
    ·rw[e2];cases((((yf 32 line).length:Int) != 4) || ((yf 32 line).getD 0 default != [101,100,105,116,105,111,110]))<;>rfl
theorem ysp (s:List UInt8) (hs:s.length<=1048576):(zfb s).1.Aids.length<=24/\∀ v∈(zfb s).1.Aids,bdAid v:=⟨(yai s hs).2.1,fun v h=>((yai s hs).2.2 v h).2⟩
theorem ytx (s:List UInt8) (hs:s.length<=1048576):(zxb s).1.Aids.length<=24/\∀ v∈(zxb s).1.Aids,bdAid v:=by rw[<- (yai s hs).1];exact ysp s hs
def ybl (a0:(List Aid)) (a1:Int) (i1:Nat) (s1:Int×List Aid):Except (Int×(List Aid)) (Int×List Aid):=
 .ok (IntKind.wrap .i64 (((zhb ((s1.2.getD i1 default).Sectors) (IntKind.wrap .i64 ((IntKind.wrap .i64 ((IntKind.wrap .i64 (((zp (((s1.2.getD i1 default).Light).Group) (IntKind.wrap .i64 ((IntKind.wrap .i64 ((IntKind.wrap .i64 ((IntKind.wrap .i64 ((IntKind.wrap .i64 ((IntKind.wrap .i64 ((IntKind.wrap .i64 ((IntKind.wrap .i64 ((IntKind.wrap .i64 ((IntKind.wrap .i64 (s1.1+1))+1))+1))+1))+1))+1))+1))+1))+1))+1))).1)+1))+1))+1))).1)+1),s1.2.set i1 ({ Number:=s1.1,Name:=(zy (IntKind.wrap .i64 (s1.1+1))),At:={ X:=IntKind.wrap .i64 ((IntKind.wrap .i64 (s1.1+1))+1),Y:=IntKind.wrap .i64 ((IntKind.wrap .i64 ((IntKind.wrap .i64 (s1.1+1))+1))+1):Point },Height:=IntKind.wrap .i64 ((IntKind.wrap .i64 ((IntKind.wrap .i64 ((IntKind.wrap .i64 (s1.1+1))+1))+1))+1),Mark:={ Kind:=IntKind.wrap .i64 ((IntKind.wrap .i64 ((IntKind.wrap .i64 ((IntKind.wrap .i64 ((IntKind.wrap .i64 (s1.1+1))+1))+1))+1))+1),Colors:=(zy (IntKind.wrap .i64 ((IntKind.wrap .i64 ((IntKind.wrap .i64 ((IntKind.wrap .i64 ((IntKind.wrap .i64 ((IntKind.wrap .i64 (s1.1+1))+1))+1))+1))+1))+1))),Shape:=(zy (IntKind.wrap .i64 ((IntKind.wrap .i64 ((IntKind.wrap .i64 ((IntKind.wrap .i64 ((IntKind.wrap .i64 ((IntKind.wrap .i64 ((IntKind.wrap .i64 (s1.1+1))+1))+1))+1))+1))+1))+1))),Topmark:=(zy (IntKind.wrap .i64 ((IntKind.wrap .i64 ((IntKind.wrap .i64 ((IntKind.wrap .i64 ((IntKind.wrap .i64 ((IntKind.wrap .i64 ((IntKind.wrap .i64 ((IntKind.wrap .i64 (s1.1+1))+1))+1))+1))+1))+1))+1))+1))):Mark },Light:={ Kind:=IntKind.wrap .i64 ((IntKind.wrap .i64 ((IntKind.wrap .i64 ((IntKind.wrap .i64 ((IntKind.wrap .i64 ((IntKind.wrap .i64 ((IntKind.wrap .i64 ((IntKind.wrap .i64 ((IntKind.wrap .i64 (s1.1+1))+1))+1))+1))+1))+1))+1))+1))+1),Group:=(zp (((s1.2.getD i1 default).Light).Group) (IntKind.wrap .i64 ((IntKind.wrap .i64 ((IntKind.wrap .i64 ((IntKind.wrap .i64 ((IntKind.wrap .i64 ((IntKind.wrap .i64 ((IntKind.wrap .i64 ((IntKind.wrap .i64 ((IntKind.wrap .i64 ((IntKind.wrap .i64 (s1.1+1))+1))+1))+1))+1))+1))+1))+1))+1))+1))).2,Letter:=(zy ((zp (((s1.2.getD i1 default).Light).Group) (IntKind.wrap .i64 ((IntKind.wrap .i64 ((IntKind.wrap .i64 ((IntKind.wrap .i64 ((IntKind.wrap .i64 ((IntKind.wrap .i64 ((IntKind.wrap .i64 ((IntKind.wrap .i64 ((IntKind.wrap .i64 ((IntKind.wrap .i64 (s1.1+1))+1))+1))+1))+1))+1))+1))+1))+1))+1))).1)),Colors:=(zy (IntKind.wrap .i64 (((zp (((s1.2.getD i1 default).Light).Group) (IntKind.wrap .i64 ((IntKind.wrap .i64 ((IntKind.wrap .i64 ((IntKind.wrap .i64 ((IntKind.wrap .i64 ((IntKind.wrap .i64 ((IntKind.wrap .i64 ((IntKind.wrap .i64 ((IntKind.wrap .i64 ((IntKind.wrap .i64 (s1.1+1))+1))+1))+1))+1))+1))+1))+1))+1))+1))).1)+1))),Period:=IntKind.wrap .i64 ((IntKind.wrap .i64 (((zp (((s1.2.getD i1 default).Light).Group) (IntKind.wrap .i64 ((IntKind.wrap .i64 ((IntKind.wrap .i64 ((IntKind.wrap .i64 ((IntKind.wrap .i64 ((IntKind.wrap .i64 ((IntKind.wrap .i64 ((IntKind.wrap .i64 ((IntKind.wrap .i64 ((IntKind.wrap .i64 (s1.1+1))+1))+1))+1))+1))+1))+1))+1))+1))+1))).1)+1))+1):Character },Sectors:=(zhb ((s1.2.getD i1 default).Sectors) (IntKind.wrap .i64 ((IntKind.wrap .i64 ((IntKind.wrap .i64 (((zp (((s1.2.getD i1 default).Light).Group) (IntKind.wrap .i64 ((IntKind.wrap .i64 ((IntKind.wrap .i64 ((IntKind.wrap .i64 ((IntKind.wrap .i64 ((IntKind.wrap .i64 ((IntKind.wrap .i64 ((IntKind.wrap .i64 ((IntKind.wrap .i64 ((IntKind.wrap .i64 (s1.1+1))+1))+1))+1))+1))+1))+1))+1))+1))+1))).1)+1))+1))+1))).2,Intensity:=((zhb ((s1.2.getD i1 default).Sectors) (IntKind.wrap .i64 ((IntKind.wrap .i64 ((IntKind.wrap .i64 (((zp (((s1.2.getD i1 default).Light).Group) (IntKind.wrap .i64 ((IntKind.wrap .i64 ((IntKind.wrap .i64 ((IntKind.wrap .i64 ((IntKind.wrap .i64 ((IntKind.wrap .i64 ((IntKind.wrap .i64 ((IntKind.wrap .i64 ((IntKind.wrap .i64 ((IntKind.wrap .i64 (s1.1+1))+1))+1))+1))+1))+1))+1))+1))+1))+1))).1)+1))+1))+1))).1):Aid }))
def zuc (a0:(List Aid)) (a1:Int):Int×(List Aid):=
 (match yd (ybl a0 a1) (a0.length-0) 0 (a1,a0)with|.error e=>e|.ok s1=>(s1.1,s1.2))
namespace N100
theorem DD:DOk Tryz.prog (Go.Ab.DD [(181,dP D_zy),(182,dM [true,false] D_zp),(183,dM [true,false] D_zhb)]):=ya ysn.e <| ya yd7.e <| ya y51.e <| ye _
theorem dn:type_of% (And.intro @D_zy.eq_1 <| And.intro @D_zp.eq_1 <| And.intro @D_zhb.eq_1 <| And.intro @ygv <| @yrc):=And.intro @D_zy.eq_1 <| And.intro @D_zp.eq_1 <| And.intro @D_zhb.eq_1 <| And.intro @ygv <| @yrc
theorem ol:type_of% (And.intro @yfk <| @y6b):=And.intro @yfk <| @y6b
theorem gr {p:Prop} (h:p:=by(grind [yfk,y4c]);first|done|fail):p:=h
theorem o1 {p:Prop} (h:p:=by(first|(exact mrg)|(first|exact y5h _ _ (by exact mrg)|exact y4c _ _ (by exact mrg)|exact y5h _ _ (ybe _)|exact y4c _ _ (ybe _)));first|done|fail):p:=h
theorem o2 {p:Prop} (h:p:=by(first|(and_intros<;>first|rfl|decide|(rw[IntKind.wrap_i64];omega)|(simp only[List.length_set];(first|done|fail))|(intro j hj;by_cases hji:j=i1;(focus(subst hji;simp only[yo2 hj,Nat.beq_refl,beq_self_eq_true,cond_true,ol];first|(first|done|fail)|rfl|(and_intros<;>rfl)));(simp only[y0z hji,beqF hji,cond_false];first|(first|done|fail)|rfl|(and_intros<;>rfl)))));first|done|fail):p:=h
set_option maxHeartbeats 4000000 in
set_option maxRecDepth 20000 in
theorem den (a0:(List Aid)) (a1:Int) (hp0:a1<=9223372036854775807):DenD Tryz.prog 100 [ownL 59 16 ybi a0,.int .i64 a1] (.int .i64 ((zuc a0 a1).1)) [(ownL 59 16 ybi ((zuc a0 a1).2)),.any]:=by
 generalize hR:zuc a0 a1=r;unfold zuc at hR;refine y3m (gb:=[true,false]) G_ok Tryz.func100 (by kernel_rfl) rfl Tryz.ntmps100 (by rw[Tryz.results100]) (by simp) ?_;intro c hdp hL hc hk;obtain⟨hL0,hL1,_⟩:=hL;have hw0:a0.length<9223372036854775808:=Nat.lt_succ_of_le (ycc hL0).1;have hw1:∀ v∈a0,bwAid v:=fun v hv=>ywr v ((ycc hL0).2 v hv)
 clear hL0 hL1;simp only[adEL,adE,adRL,adR,ownL,encL,sv,List.nil_append,List.append_nil,List.cons_append,List.length_cons,List.length_nil,pars,Nat.zero_add,Nat.reduceAdd]at hk ⊢;iterate 2 refine rS ?_
 refine AWP.block ?_;generalize hz1:yd (ybl a0 a1) (a0.length-0) 0 (a1,a0)=z1 at hR;refine AWP.range (ybl a0 a1) (fun i1 s1=>⟨[(0,.ref 0 16 0 s1.2.length),(1,.int .i64 s1.1),(5,.int .i64 (i1:Int))],[.arr 59 16 s1.2.length (fun j=>ybi (s1.2.getD j default))]⟩) (fun i1 s1=>s1.2.length=a0.length/\s1.1<=9223372036854775807) (a0.length) 0 (a1,a0) [0] hz1 ot wt sm ?_;clear hz1;intro i1 s1 hi1 hW1 hz1;refine rS ?_;refine AWP.cond rfl (fun hb => ?_) (fun hb => ?_)
 ·have hlt1:i1<a0.length:=ot
  rw[yg hlt1]at hz1;simp only[ybl]at hz1;iterate 4 refine rS ?_
  refine AWP.keepT [0,1,5] ?_;simp only[List.map,putL,dropL,Nat.beq_refl,cond_true,ea,absV,absVL,cput,gv,sv,dn,reduceCtorEq,reduceIte,Nat.reduceBEq,Nat.reduceAdd,Nat.reduceEqDiff,Nat.reduceLT,Nat.reduceLeDiff,Nat.reduceMul,Nat.reduceSub,BEq.rfl,beq_self_eq_true,Int.reduceToNat];iterate 5 refine rS ?_
  refine AWP.keepT [0,1,5] ?_;simp only[List.map,putL,dropL,Nat.beq_refl,cond_true,ea,absV,absVL,cput,gv,sv,dn,reduceCtorEq,reduceIte,Nat.reduceBEq,Nat.reduceAdd,Nat.reduceEqDiff,Nat.reduceLT,Nat.reduceLeDiff,Nat.reduceMul,Nat.reduceSub,BEq.rfl,beq_self_eq_true,Int.reduceToNat];iterate 5 refine rS ?_
  refine AWP.keepT [0,1,5] ?_;simp only[List.map,putL,dropL,Nat.beq_refl,cond_true,ea,absV,absVL,cput,gv,sv,dn,reduceCtorEq,reduceIte,Nat.reduceBEq,Nat.reduceAdd,Nat.reduceEqDiff,Nat.reduceLT,Nat.reduceLeDiff,Nat.reduceMul,Nat.reduceSub,BEq.rfl,beq_self_eq_true,Int.reduceToNat];iterate 5 refine rS ?_
  refine AWP.keepT [0,1,5] ?_;simp only[List.map,putL,dropL,Nat.beq_refl,cond_true,ea,absV,absVL,cput,gv,sv,dn,reduceCtorEq,reduceIte,Nat.reduceBEq,Nat.reduceAdd,Nat.reduceEqDiff,Nat.reduceLT,Nat.reduceLeDiff,Nat.reduceMul,Nat.reduceSub,BEq.rfl,beq_self_eq_true,Int.reduceToNat];refine rS ?_;refine AWP.seq ?_;refine AWP.openE rb 0 0 i1 10 rfl rfl ot (by simp only[putL,dropL,Nat.beq_refl,cond_true,ea,absV,absVL,cput,gv,sv,dn,reduceCtorEq,reduceIte,Nat.reduceBEq,Nat.reduceAdd,Nat.reduceEqDiff,Nat.reduceLT,Nat.reduceLeDiff,Nat.reduceMul,Nat.reduceSub,BEq.rfl,beq_self_eq_true,Int.reduceToNat];rfl) ?_;simp only[putL,dropL,Nat.beq_refl,cond_true,ea,absV,absVL,cput,gv,sv,dn,reduceCtorEq,reduceIte,Nat.reduceBEq,Nat.reduceAdd,Nat.reduceEqDiff,Nat.reduceLT,Nat.reduceLeDiff,Nat.reduceMul,Nat.reduceSub,BEq.rfl,beq_self_eq_true,Int.reduceToNat];refine rS ?_;simp only[ol];refine AWP.closeE 0 0 i1 10 1 rfl rfl rfl (by decide) ot (by simp only[putL,dropL,Nat.beq_refl,cond_true,ea,absV,absVL,cput,gv,sv,dn,reduceCtorEq,reduceIte,Nat.reduceBEq,Nat.reduceAdd,Nat.reduceEqDiff,Nat.reduceLT,Nat.reduceLeDiff,Nat.reduceMul,Nat.reduceSub,BEq.rfl,beq_self_eq_true,Int.reduceToNat];rfl) (fun k hk=>by rfl) ?_;simp only[putL,dropL,Nat.beq_refl,cond_true,ea,absV,absVL,cput,gv,sv,dn,reduceCtorEq,reduceIte,Nat.reduceBEq,Nat.reduceAdd,Nat.reduceEqDiff,Nat.reduceLT,Nat.reduceLeDiff,Nat.reduceMul,Nat.reduceSub,BEq.rfl,beq_self_eq_true,Int.reduceToNat];iterate 3 refine rS ?_
  refine AWP.keepT [0,1,5] ?_;simp only[List.map,putL,dropL,Nat.beq_refl,cond_true,ea,absV,absVL,cput,gv,sv,dn,reduceCtorEq,reduceIte,Nat.reduceBEq,Nat.reduceAdd,Nat.reduceEqDiff,Nat.reduceLT,Nat.reduceLeDiff,Nat.reduceMul,Nat.reduceSub,BEq.rfl,beq_self_eq_true,Int.reduceToNat];iterate 3 refine rS ?_
  refine AWP.seq ?_;refine AWP.openE rb 0 0 i1 14 rfl rfl ot (by simp only[putL,dropL,Nat.beq_refl,cond_true,ea,absV,absVL,cput,gv,sv,dn,reduceCtorEq,reduceIte,Nat.reduceBEq,Nat.reduceAdd,Nat.reduceEqDiff,Nat.reduceLT,Nat.reduceLeDiff,Nat.reduceMul,Nat.reduceSub,BEq.rfl,beq_self_eq_true,Int.reduceToNat];rfl) ?_;simp only[putL,dropL,Nat.beq_refl,cond_true,ea,absV,absVL,cput,gv,sv,dn,reduceCtorEq,reduceIte,Nat.reduceBEq,Nat.reduceAdd,Nat.reduceEqDiff,Nat.reduceLT,Nat.reduceLeDiff,Nat.reduceMul,Nat.reduceSub,BEq.rfl,beq_self_eq_true,Int.reduceToNat];refine rS ?_;simp only[ol];refine AWP.closeE 0 0 i1 14 2 rfl rfl rfl (by decide) ot (by simp only[putL,dropL,Nat.beq_refl,cond_true,ea,absV,absVL,cput,gv,sv,dn,reduceCtorEq,reduceIte,Nat.reduceBEq,Nat.reduceAdd,Nat.reduceEqDiff,Nat.reduceLT,Nat.reduceLeDiff,Nat.reduceMul,Nat.reduceSub,BEq.rfl,beq_self_eq_true,Int.reduceToNat];rfl) (fun k hk=>by rfl) ?_;simp only[putL,dropL,Nat.beq_refl,cond_true,ea,absV,absVL,cput,gv,sv,dn,reduceCtorEq,reduceIte,Nat.reduceBEq,Nat.reduceAdd,Nat.reduceEqDiff,Nat.reduceLT,Nat.reduceLeDiff,Nat.reduceMul,Nat.reduceSub,BEq.rfl,beq_self_eq_true,Int.reduceToNat];refine rS ?_;refine AWP.keepT [0,1,5] ?_;simp only[List.map,putL,dropL,Nat.beq_refl,cond_true,ea,absV,absVL,cput,gv,sv,dn,reduceCtorEq,reduceIte,Nat.reduceBEq,Nat.reduceAdd,Nat.reduceEqDiff,Nat.reduceLT,Nat.reduceLeDiff,Nat.reduceMul,Nat.reduceSub,BEq.rfl,beq_self_eq_true,Int.reduceToNat];iterate 2 refine rS ?_
  exact⟨_,[0],hlt1,by(exact mrg),hz1,sm⟩
 ·obtain rfl:i1=a0.length:=ot
  rw[yh (Nat.le_refl _)]at hz1;subst hz1;dsimp only at hR;refine AWP.exit ?_;refine yb ?_;refine rS ?_;refine AWP.ret ?_;subst hR;exact es
end N100
def yil (a0:(List Aid)) (a1:Int) (i1:Nat) (s1:Int):Except (Int) (Int):=
 (bif (((a0.getD i1 default).Number) != s1)then .error (-1)else(bif (((a0.getD i1 default).Name) != (zy (IntKind.wrap .i64 (s1+1))))then .error (-1)else(bif ((((a0.getD i1 default).At).X) != (IntKind.wrap .i64 ((IntKind.wrap .i64 (s1+1))+1)))then .error (-1)else(bif ((((a0.getD i1 default).At).Y) != (IntKind.wrap .i64 ((IntKind.wrap .i64 ((IntKind.wrap .i64 (s1+1))+1))+1)))then .error (-1)else(bif (((a0.getD i1 default).Height) != (IntKind.wrap .i64 ((IntKind.wrap .i64 ((IntKind.wrap .i64 ((IntKind.wrap .i64 (s1+1))+1))+1))+1)))then .error (-1)else(bif ((((a0.getD i1 default).Mark).Kind) != (IntKind.wrap .i64 ((IntKind.wrap .i64 ((IntKind.wrap .i64 ((IntKind.wrap .i64 ((IntKind.wrap .i64 (s1+1))+1))+1))+1))+1)))then .error (-1)else(bif ((((a0.getD i1 default).Mark).Colors) != (zy (IntKind.wrap .i64 ((IntKind.wrap .i64 ((IntKind.wrap .i64 ((IntKind.wrap .i64 ((IntKind.wrap .i64 ((IntKind.wrap .i64 (s1+1))+1))+1))+1))+1))+1))))then .error (-1)else(bif ((((a0.getD i1 default).Mark).Shape) != (zy (IntKind.wrap .i64 ((IntKind.wrap .i64 ((IntKind.wrap .i64 ((IntKind.wrap .i64 ((IntKind.wrap .i64 ((IntKind.wrap .i64 ((IntKind.wrap .i64 (s1+1))+1))+1))+1))+1))+1))+1))))then .error (-1)else(bif ((((a0.getD i1 default).Mark).Topmark) != (zy (IntKind.wrap .i64 ((IntKind.wrap .i64 ((IntKind.wrap .i64 ((IntKind.wrap .i64 ((IntKind.wrap .i64 ((IntKind.wrap .i64 ((IntKind.wrap .i64 ((IntKind.wrap .i64 (s1+1))+1))+1))+1))+1))+1))+1))+1))))then .error (-1)else(bif ((((a0.getD i1 default).Light).Kind) != (IntKind.wrap .i64 ((IntKind.wrap .i64 ((IntKind.wrap .i64 ((IntKind.wrap .i64 ((IntKind.wrap .i64 ((IntKind.wrap .i64 ((IntKind.wrap .i64 ((IntKind.wrap .i64 ((IntKind.wrap .i64 (s1+1))+1))+1))+1))+1))+1))+1))+1))+1)))then .error (-1)else(bif decide ((ztb (((a0.getD i1 default).Light).Group) (IntKind.wrap .i64 ((IntKind.wrap .i64 ((IntKind.wrap .i64 ((IntKind.wrap .i64 ((IntKind.wrap .i64 ((IntKind.wrap .i64 ((IntKind.wrap .i64 ((IntKind.wrap .i64 ((IntKind.wrap .i64 ((IntKind.wrap .i64 (s1+1))+1))+1))+1))+1))+1))+1))+1))+1))+1)))<0)then .error (-1)else(bif ((((a0.getD i1 default).Light).Letter) != (zy (ztb (((a0.getD i1 default).Light).Group) (IntKind.wrap .i64 ((IntKind.wrap .i64 ((IntKind.wrap .i64 ((IntKind.wrap .i64 ((IntKind.wrap .i64 ((IntKind.wrap .i64 ((IntKind.wrap .i64 ((IntKind.wrap .i64 ((IntKind.wrap .i64 ((IntKind.wrap .i64 (s1+1))+1))+1))+1))+1))+1))+1))+1))+1))+1)))))then .error (-1)else(bif ((((a0.getD i1 default).Light).Colors) != (zy (IntKind.wrap .i64 ((ztb (((a0.getD i1 default).Light).Group) (IntKind.wrap .i64 ((IntKind.wrap .i64 ((IntKind.wrap .i64 ((IntKind.wrap .i64 ((IntKind.wrap .i64 ((IntKind.wrap .i64 ((IntKind.wrap .i64 ((IntKind.wrap .i64 ((IntKind.wrap .i64 ((IntKind.wrap .i64 (s1+1))+1))+1))+1))+1))+1))+1))+1))+1))+1)))+1))))then .error (-1)else(bif ((((a0.getD i1 default).Light).Period) != (IntKind.wrap .i64 ((IntKind.wrap .i64 ((ztb (((a0.getD i1 default).Light).Group) (IntKind.wrap .i64 ((IntKind.wrap .i64 ((IntKind.wrap .i64 ((IntKind.wrap .i64 ((IntKind.wrap .i64 ((IntKind.wrap .i64 ((IntKind.wrap .i64 ((IntKind.wrap .i64 ((IntKind.wrap .i64 ((IntKind.wrap .i64 (s1+1))+1))+1))+1))+1))+1))+1))+1))+1))+1)))+1))+1)))then .error (-1)else(bif decide ((ztc ((a0.getD i1 default).Sectors) (IntKind.wrap .i64 ((IntKind.wrap .i64 ((IntKind.wrap .i64 ((ztb (((a0.getD i1 default).Light).Group) (IntKind.wrap .i64 ((IntKind.wrap .i64 ((IntKind.wrap .i64 ((IntKind.wrap .i64 ((IntKind.wrap .i64 ((IntKind.wrap .i64 ((IntKind.wrap .i64 ((IntKind.wrap .i64 ((IntKind.wrap .i64 ((IntKind.wrap .i64 (s1+1))+1))+1))+1))+1))+1))+1))+1))+1))+1)))+1))+1))+1)))<0)then .error (-1)else(bif (((a0.getD i1 default).Intensity) != (ztc ((a0.getD i1 default).Sectors) (IntKind.wrap .i64 ((IntKind.wrap .i64 ((IntKind.wrap .i64 ((ztb (((a0.getD i1 default).Light).Group) (IntKind.wrap .i64 ((IntKind.wrap .i64 ((IntKind.wrap .i64 ((IntKind.wrap .i64 ((IntKind.wrap .i64 ((IntKind.wrap .i64 ((IntKind.wrap .i64 ((IntKind.wrap .i64 ((IntKind.wrap .i64 ((IntKind.wrap .i64 (s1+1))+1))+1))+1))+1))+1))+1))+1))+1))+1)))+1))+1))+1))))then .error (-1)else .ok (IntKind.wrap .i64 ((ztc ((a0.getD i1 default).Sectors) (IntKind.wrap .i64 ((IntKind.wrap .i64 ((IntKind.wrap .i64 ((ztb (((a0.getD i1 default).Light).Group) (IntKind.wrap .i64 ((IntKind.wrap .i64 ((IntKind.wrap .i64 ((IntKind.wrap .i64 ((IntKind.wrap .i64 ((IntKind.wrap .i64 ((IntKind.wrap .i64 ((IntKind.wrap .i64 ((IntKind.wrap .i64 ((IntKind.wrap .i64 (s1+1))+1))+1))+1))+1))+1))+1))+1))+1))+1)))+1))+1))+1)))+1))))))))))))))))))
def znd (a0:(List Aid)) (a1:Int):Int:=
 (match yd (yil a0 a1) (a0.length-0) 0 a1 with|.error e=>e|.ok s1=>s1)
namespace N101
theorem DD:DOk Tryz.prog (Go.Ab.DD [(181,dP D_zy),(184,dP D_ztb),(185,dP D_ztc)]):=ya ysn.e <| ya y24.e <| ya yc2.e <| ye _
theorem dn:type_of% (And.intro @D_zy.eq_1 <| And.intro @D_ztb.eq_1 <| And.intro @D_ztc.eq_1 <| And.intro @ygv <| @yrc):=And.intro @D_zy.eq_1 <| And.intro @D_ztb.eq_1 <| And.intro @D_ztc.eq_1 <| And.intro @ygv <| @yrc
theorem ol:type_of% (And.intro @yfk <| @y6b):=And.intro @yfk <| @y6b
theorem gr {p:Prop} (h:p:=by(grind [yfk,y4c]);first|done|fail):p:=h
theorem o1 {p:Prop} (h:p:=by(first|(exact mrg)|(exact yso _ _ (by exact mrg))|(exact yhm _ _ (by exact mrg)));first|done|fail):p:=h
set_option maxHeartbeats 4000000 in
set_option maxRecDepth 20000 in
theorem den (a0:(List Aid)) (a1:Int) (hp0:a1<=9223372036854775807):Den Tryz.prog 101 [encL 16 eAid a0,.int .i64 a1] (.int .i64 (znd a0 a1)):=by
 generalize hR:znd a0 a1=r;unfold znd at hR;refine di Tryz.func101 Tryz.ntmps101 Tryz.results101 ?_;intro c hL hc hk;obtain⟨hL0,hL1,_⟩:=hL;have hw0:a0.length<9223372036854775808:=Nat.lt_succ_of_le (yj hL0).1;have hw1:∀ v∈a0,bwAid v:=fun v hv=>ytc v ((yj hL0).2 v hv)
 clear hL0 hL1;simp only[pars,Nat.zero_add];iterate 2 refine rS ?_
 refine AWP.block ?_;generalize hz1:yd (yil a0 a1) (a0.length-0) 0 a1=z1 at hR;refine AWP.range (yil a0 a1) (fun i1 s1=>⟨[(0,encL 16 eAid a0),(1,.int .i64 s1),(5,.int .i64 (i1:Int))],[]⟩) (fun i1 s1=>s1<=9223372036854775807) (a0.length) 0 a1 [] hz1 ot wt sm ?_;clear hz1;intro i1 s1 hi1 hW1 hz1;refine rS ?_;refine AWP.cond rfl (fun hb => ?_) (fun hb => ?_)
 ·have hlt1:i1<a0.length:=ot
  rw[yg hlt1]at hz1;simp only[yil]at hz1;refine rS ?_;refine AWP.cond rfl (fun hb => ?_) (fun hb => ?_)
  ·simp only[hb,cond_true]at hz1
   refine rS ?_;refine AWP.ret ?_;subst hz1;dsimp only at hR;subst hR;exact es
  ·simp only[hb,cond_false]at hz1
   refine rS ?_;refine rD 7 ?_;refine AWP.cond rfl (fun hb => ?_) (fun hb => ?_)
   ·simp only[hb,cond_true]at hz1
    refine rS ?_;refine AWP.ret ?_;subst hz1;dsimp only at hR;subst hR;exact es
   ·simp only[hb,cond_false]at hz1
    iterate 2 refine rS ?_
    refine AWP.cond rfl (fun hb => ?_) (fun hb => ?_)
    ·simp only[hb,cond_true]at hz1
     refine rS ?_;refine AWP.ret ?_;subst hz1;dsimp only at hR;subst hR;exact es
    ·simp only[hb,cond_false]at hz1
     iterate 2 refine rS ?_
     refine AWP.cond rfl (fun hb => ?_) (fun hb => ?_)
     ·simp only[hb,cond_true]at hz1
      refine rS ?_;refine AWP.ret ?_;subst hz1;dsimp only at hR;subst hR;exact es
     ·simp only[hb,cond_false]at hz1
      iterate 2 refine rS ?_
      refine AWP.cond rfl (fun hb => ?_) (fun hb => ?_)
      ·simp only[hb,cond_true]at hz1
       refine rS ?_;refine AWP.ret ?_;subst hz1;dsimp only at hR;subst hR;exact es
      ·simp only[hb,cond_false]at hz1
       iterate 2 refine rS ?_
       refine AWP.cond rfl (fun hb => ?_) (fun hb => ?_)
       ·simp only[hb,cond_true]at hz1
        refine rS ?_;refine AWP.ret ?_;subst hz1;dsimp only at hR;subst hR;exact es
       ·simp only[hb,cond_false]at hz1
        refine rS ?_;refine rD 9 ?_;refine AWP.cond rfl (fun hb => ?_) (fun hb => ?_)
        ·simp only[hb,cond_true]at hz1
         refine rS ?_;refine AWP.ret ?_;subst hz1;dsimp only at hR;subst hR;exact es
        ·simp only[hb,cond_false]at hz1
         refine rS ?_;refine rD 9 ?_;refine AWP.cond rfl (fun hb => ?_) (fun hb => ?_)
         ·simp only[hb,cond_true]at hz1
          refine rS ?_;refine AWP.ret ?_;subst hz1;dsimp only at hR;subst hR;exact es
         ·simp only[hb,cond_false]at hz1
          refine rS ?_;refine rD 9 ?_;refine AWP.cond rfl (fun hb => ?_) (fun hb => ?_)
          ·simp only[hb,cond_true]at hz1
           refine rS ?_;refine AWP.ret ?_;subst hz1;dsimp only at hR;subst hR;exact es
          ·simp only[hb,cond_false]at hz1
           iterate 2 refine rS ?_
           refine AWP.cond rfl (fun hb => ?_) (fun hb => ?_)
           ·simp only[hb,cond_true]at hz1
            refine rS ?_;refine AWP.ret ?_;subst hz1;dsimp only at hR;subst hR;exact es
           ·simp only[hb,cond_false]at hz1
            iterate 3 refine rS ?_
            refine AWP.cond rfl (fun hb => ?_) (fun hb => ?_)
            ·simp only[hb,cond_true]at hz1
             refine rS ?_;refine AWP.ret ?_;subst hz1;dsimp only at hR;subst hR;exact es
            ·simp only[hb,cond_false]at hz1
             refine rD 9 ?_;refine AWP.cond rfl (fun hb => ?_) (fun hb => ?_)
             ·simp only[hb,cond_true]at hz1
              refine rS ?_;refine AWP.ret ?_;subst hz1;dsimp only at hR;subst hR;exact es
             ·simp only[hb,cond_false]at hz1
              refine rS ?_;refine rD 9 ?_;refine AWP.cond rfl (fun hb => ?_) (fun hb => ?_)
              ·simp only[hb,cond_true]at hz1
               refine rS ?_;refine AWP.ret ?_;subst hz1;dsimp only at hR;subst hR;exact es
              ·simp only[hb,cond_false]at hz1
               iterate 2 refine rS ?_
               refine AWP.cond rfl (fun hb => ?_) (fun hb => ?_)
               ·simp only[hb,cond_true]at hz1
                refine rS ?_;refine AWP.ret ?_;subst hz1;dsimp only at hR;subst hR;exact es
               ·simp only[hb,cond_false]at hz1
                iterate 3 refine rS ?_
                refine AWP.cond rfl (fun hb => ?_) (fun hb => ?_)
                ·simp only[hb,cond_true]at hz1
                 refine rS ?_;refine AWP.ret ?_;subst hz1;dsimp only at hR;subst hR;exact es
                ·simp only[hb,cond_false]at hz1
                 refine rS ?_;refine AWP.cond rfl (fun hb => ?_) (fun hb => ?_)
                 ·simp only[hb,cond_true]at hz1
                  refine rS ?_;refine AWP.ret ?_;subst hz1;dsimp only at hR;subst hR;exact es
                 ·simp only[hb,cond_false]at hz1
                  iterate 2 refine rS ?_
                  exact⟨_,[],hlt1,by(exact mrg),hz1,sm⟩
 ·obtain rfl:i1=a0.length:=ot
  rw[yh (Nat.le_refl _)]at hz1;subst hz1;dsimp only at hR;refine AWP.exit ?_;refine yb ?_;refine rS ?_;refine AWP.ret ?_;subst hR;exact es
end N101
def D_znd : DF
 | [x0,x1]=>some (.int .i64 (znd (rdL dAid x0) (rdI x1)),false,[wL 16 eAid dAid x0,wI .i64 x1,(rdI x1)<=9223372036854775807])
 | _=>none
theorem y62:OkD Tryz.prog 101 D_znd:=by unfold D_znd;exact dk N101.den
def yuc (x:Aid) (k:Int):Int×Aid:=
 (IntKind.wrap .i64 (((zhb (x.Sectors) (IntKind.wrap .i64 ((IntKind.wrap .i64 ((IntKind.wrap .i64 (((zp ((x.Light).Group) (IntKind.wrap .i64 ((IntKind.wrap .i64 ((IntKind.wrap .i64 ((IntKind.wrap .i64 ((IntKind.wrap .i64 ((IntKind.wrap .i64 ((IntKind.wrap .i64 ((IntKind.wrap .i64 ((IntKind.wrap .i64 ((IntKind.wrap .i64 (k+1))+1))+1))+1))+1))+1))+1))+1))+1))+1))).1)+1))+1))+1))).1)+1),{ Number:=k,Name:=(zy (IntKind.wrap .i64 (k+1))),At:={ X:=IntKind.wrap .i64 ((IntKind.wrap .i64 (k+1))+1),Y:=IntKind.wrap .i64 ((IntKind.wrap .i64 ((IntKind.wrap .i64 (k+1))+1))+1):Point },Height:=IntKind.wrap .i64 ((IntKind.wrap .i64 ((IntKind.wrap .i64 ((IntKind.wrap .i64 (k+1))+1))+1))+1),Mark:={ Kind:=IntKind.wrap .i64 ((IntKind.wrap .i64 ((IntKind.wrap .i64 ((IntKind.wrap .i64 ((IntKind.wrap .i64 (k+1))+1))+1))+1))+1),Colors:=(zy (IntKind.wrap .i64 ((IntKind.wrap .i64 ((IntKind.wrap .i64 ((IntKind.wrap .i64 ((IntKind.wrap .i64 ((IntKind.wrap .i64 (k+1))+1))+1))+1))+1))+1))),Shape:=(zy (IntKind.wrap .i64 ((IntKind.wrap .i64 ((IntKind.wrap .i64 ((IntKind.wrap .i64 ((IntKind.wrap .i64 ((IntKind.wrap .i64 ((IntKind.wrap .i64 (k+1))+1))+1))+1))+1))+1))+1))),Topmark:=(zy (IntKind.wrap .i64 ((IntKind.wrap .i64 ((IntKind.wrap .i64 ((IntKind.wrap .i64 ((IntKind.wrap .i64 ((IntKind.wrap .i64 ((IntKind.wrap .i64 ((IntKind.wrap .i64 (k+1))+1))+1))+1))+1))+1))+1))+1))):Mark },Light:={ Kind:=IntKind.wrap .i64 ((IntKind.wrap .i64 ((IntKind.wrap .i64 ((IntKind.wrap .i64 ((IntKind.wrap .i64 ((IntKind.wrap .i64 ((IntKind.wrap .i64 ((IntKind.wrap .i64 ((IntKind.wrap .i64 (k+1))+1))+1))+1))+1))+1))+1))+1))+1),Group:=(zp ((x.Light).Group) (IntKind.wrap .i64 ((IntKind.wrap .i64 ((IntKind.wrap .i64 ((IntKind.wrap .i64 ((IntKind.wrap .i64 ((IntKind.wrap .i64 ((IntKind.wrap .i64 ((IntKind.wrap .i64 ((IntKind.wrap .i64 ((IntKind.wrap .i64 (k+1))+1))+1))+1))+1))+1))+1))+1))+1))+1))).2,Letter:=(zy ((zp ((x.Light).Group) (IntKind.wrap .i64 ((IntKind.wrap .i64 ((IntKind.wrap .i64 ((IntKind.wrap .i64 ((IntKind.wrap .i64 ((IntKind.wrap .i64 ((IntKind.wrap .i64 ((IntKind.wrap .i64 ((IntKind.wrap .i64 ((IntKind.wrap .i64 (k+1))+1))+1))+1))+1))+1))+1))+1))+1))+1))).1)),Colors:=(zy (IntKind.wrap .i64 (((zp ((x.Light).Group) (IntKind.wrap .i64 ((IntKind.wrap .i64 ((IntKind.wrap .i64 ((IntKind.wrap .i64 ((IntKind.wrap .i64 ((IntKind.wrap .i64 ((IntKind.wrap .i64 ((IntKind.wrap .i64 ((IntKind.wrap .i64 ((IntKind.wrap .i64 (k+1))+1))+1))+1))+1))+1))+1))+1))+1))+1))).1)+1))),Period:=IntKind.wrap .i64 ((IntKind.wrap .i64 (((zp ((x.Light).Group) (IntKind.wrap .i64 ((IntKind.wrap .i64 ((IntKind.wrap .i64 ((IntKind.wrap .i64 ((IntKind.wrap .i64 ((IntKind.wrap .i64 ((IntKind.wrap .i64 ((IntKind.wrap .i64 ((IntKind.wrap .i64 ((IntKind.wrap .i64 (k+1))+1))+1))+1))+1))+1))+1))+1))+1))+1))).1)+1))+1):Character },Sectors:=(zhb (x.Sectors) (IntKind.wrap .i64 ((IntKind.wrap .i64 ((IntKind.wrap .i64 (((zp ((x.Light).Group) (IntKind.wrap .i64 ((IntKind.wrap .i64 ((IntKind.wrap .i64 ((IntKind.wrap .i64 ((IntKind.wrap .i64 ((IntKind.wrap .i64 ((IntKind.wrap .i64 ((IntKind.wrap .i64 ((IntKind.wrap .i64 ((IntKind.wrap .i64 (k+1))+1))+1))+1))+1))+1))+1))+1))+1))+1))).1)+1))+1))+1))).2,Intensity:=((zhb (x.Sectors) (IntKind.wrap .i64 ((IntKind.wrap .i64 ((IntKind.wrap .i64 (((zp ((x.Light).Group) (IntKind.wrap .i64 ((IntKind.wrap .i64 ((IntKind.wrap .i64 ((IntKind.wrap .i64 ((IntKind.wrap .i64 ((IntKind.wrap .i64 ((IntKind.wrap .i64 ((IntKind.wrap .i64 ((IntKind.wrap .i64 ((IntKind.wrap .i64 (k+1))+1))+1))+1))+1))+1))+1))+1))+1))+1))).1)+1))+1))+1))).1):Aid })
theorem y8m (a:List Aid) (k:Int):zuc a k=yyc yuc a k:=by
 unfold zuc;have:=y7i yuc (ybl a k) (fun i s=>rfl) a [] k;simp only[List.length_nil,List.nil_append,Nat.sub_zero]at this ⊢;rw[this]
def aidB (x:Aid):Prop:=x.Light.Group.length<=1048576/\x.Sectors.length<=1048576
theorem yvz (x:Aid) (k:Int) (hx:aidB x) (h0:0<=k) (h1:k<=281474976710656):(yuc x k).1=k+14+x.Light.Group.length+3 * x.Sectors.length:=by
 obtain⟨b1,b2⟩:=hx;unfold yuc;simp(disch:=omega) only[wr1]
 have g1:k+1+1+1+1+1+1+1+1+1+1=k+10:=by omega
 rw[g1,zp_k _ _ (by omega) (by omega) (by omega)];simp(disch:=omega) only[wr1]
 rw[y4e _ _ (by omega) (by omega) (by omega)];simp(disch:=omega) only[wr1]
 omega
theorem yzq (L:List Aid) (a1:Int) (j:Nat) (x:Aid) (s:Int) (hx:aidB x) (h0:0<=s) (h1:s<=281474976710656) (e:L.getD j default=(yuc x s).2):yil L a1 j s=.ok (yuc x s).1:=by
 obtain⟨b1,b2⟩:=hx;simp only[yil,e];simp only[yuc];simp(disch:=omega) only[wr1]
 have g1:s+1+1+1+1+1+1+1+1+1+1=s+10:=by omega
 simp only[g1];have e1:=y23 x.Light.Group (s+10) (by omega) (by omega) (by omega);have e2:=zp_k x.Light.Group (s+10) (by omega) (by omega) (by omega);simp only[e1.1,e2];simp(disch:=omega) only[wr1]
 have e3:=ywj x.Sectors (s+10+1 * (x.Light.Group.length:Int)+1+1+1) (by omega) (by omega) (by omega);have e4:=y4e x.Sectors (s+10+1 * (x.Light.Group.length:Int)+1+1+1) (by omega) (by omega) (by omega);simp only[e3.1,e4];simp(disch:=omega) only[wr1]
 rw[decide_eq_false (show ¬ s+10+1 * (x.Light.Group.length:Int)<0 by omega),decide_eq_false (show ¬ s+10+1 * (x.Light.Group.length:Int)+1+1+1+3 * (x.Sectors.length:Int)<0 by omega)];simp only[bne_self_eq_false,cond_false]
theorem yfl (x:Aid) (k:Int) (hx:aidB x) (h0:0<=k) (h1:k<=281474976710656):k<=(yuc x k).1/\(yuc x k).1<=k+4194400:=by
 rw[yvz x k hx h0 h1];obtain⟨b1,b2⟩:=hx;omega
theorem ytr (a:List Aid) (k:Int) (ha:∀ x∈a,aidB x) (hl:a.length<=1048576) (h0:0<=k) (h1:k<=140737488355328):k<=(zuc a k).1/\(zuc a k).1<=k+4194400 * a.length:=by
 rw[y8m];exact y5v yuc aidB 4194400 281474976710656 (by omega) yfl a k ha h0 (by omega)
theorem yzo (a:List Aid) (k:Int) (ha:∀ x∈a,aidB x) (hl:a.length<=1048576) (h0:0<=k) (h1:k<=140737488355328):znd (zuc a k).2 k=(zuc a k).1/\¬ (zuc a k).1<0:=by
 refine⟨?_,by have:=ytr a k ha hl h0 h1;omega⟩;rw[y8m];unfold znd;rw[ypl,Nat.sub_zero]
 rw[y3i yuc (yil (yyc yuc a k).2 k) aidB 4194400 281474976710656 (by omega) yfl a 0 k ha h0 (by omega) (fun j x s hx g0 g1 g2=>by
  have e:(yyc yuc a k).2.getD (0+j) default=(yuc x s).2:=by rw[Nat.zero_add,List.getD_eq_getElem?_getD,g2];rfl
  exact yzq _ _ _ x s hx g0 g1 e)]
end Go.Ab
