/- A part of a proof: walks of functions and lemmas of our own. No conditions. -/
import Derived.Test.YtopoomikfjodkaaGreatDoorRAl
import Derived.Test.YtopoomikfjodkaaGreatDoorRAk
import Derived.Test.YtopoomikfjodkaaGreatDoorRBd
import Derived.Test.YtopoomikfjodkaaGreatDoorRBc
import Derived.Test.YtopoomikfjodkaaGreatDoorRAs
import Derived.Test.YtopoomikfjodkaaGreatDoorRAq
set_option linter.unusedSectionVars false
set_option linter.unusedVariables false
set_option linter.unusedSimpArgs false
set_option maxHeartbeats 1000000
namespace Go.Ab
open Go Go.Proofs
def ysu (a0:(List UInt8)) (s1:List UInt8×List UInt8×Int):Except (Sum ((Character×Bool)) (List UInt8×List UInt8×Int)) (List UInt8×List UInt8×Int):=
 (bif decide (s1.2.2<(s1.1.length:Int))then(bif ((((s1.1.getD ((s1.2.2).toNat) 0).toNat:Int) == 40) && (((s1.1.getD ((IntKind.wrap .i64 ((s1.1.length:Int)-1)).toNat) 0).toNat:Int) == 41))then .error (.inr (s1.1.take ((s1.2.2).toNat),(s1.1.take ((IntKind.wrap .i64 ((s1.1.length:Int)-1)).toNat)).drop ((IntKind.wrap .i64 (s1.2.2+1)).toNat),s1.2.2))else .ok (s1.1,s1.2.1,IntKind.wrap .i64 (s1.2.2+1)))else .error (.inr (s1.1,s1.2.1,s1.2.2)))
def ywp (a0:(List UInt8)) (s1:List UInt8×List UInt8×Int) (i2:Nat) (s2:Int):Except ((Character×Bool)) (Int):=
 (bif (((zo ).getD i2 default) == s1.1)then .ok (i2:Int)else .ok s2)
def ypn (a0:(List UInt8)) (s1:List UInt8×List UInt8×Int) (s2:Int) (i3:Nat) (s3:List Int):Except ((Character×Bool)) (List Int):=
 (bif (!((zf ((za s1.2.1 43).getD i3 default)).2))then .error ({ Kind:=s2,Group:=s3,Letter:=[76],Colors:=[],Period:=0:Character },false)else .ok (s3++([(zf ((za s1.2.1 43).getD i3 default)).1]:List Int)))
def y22 (a0:(List UInt8)) (s4:List UInt8×List UInt8×Int):Except (Sum ((Character×Bool)) (List UInt8×List UInt8×Int)) (List UInt8×List UInt8×Int):=
 (bif decide (s4.2.2<(s4.1.length:Int))then(bif ((((s4.1.getD ((s4.2.2).toNat) 0).toNat:Int) == 40) && (((s4.1.getD ((IntKind.wrap .i64 ((s4.1.length:Int)-1)).toNat) 0).toNat:Int) == 41))then .error (.inr (s4.1.take ((s4.2.2).toNat),(s4.1.take ((IntKind.wrap .i64 ((s4.1.length:Int)-1)).toNat)).drop ((IntKind.wrap .i64 (s4.2.2+1)).toNat),s4.2.2))else .ok (s4.1,s4.2.1,IntKind.wrap .i64 (s4.2.2+1)))else .error (.inr (s4.1,s4.2.1,s4.2.2)))
def yzm (a0:(List UInt8)) (s4:List UInt8×List UInt8×Int) (i5:Nat) (s5:Int):Except ((Character×Bool)) (Int):=
 (bif (((zo ).getD i5 default) == s4.1)then .ok (i5:Int)else .ok s5)
def ysn (a0:(List UInt8)) (s4:List UInt8×List UInt8×Int) (s5:Int) (i6:Nat) (s6:List Int):Except ((Character×Bool)) (List Int):=
 (bif (!((zf ((za s4.2.1 43).getD i6 default)).2))then .error ({ Kind:=s5,Group:=s6,Letter:=[],Colors:=[],Period:=0:Character },false)else .ok (s6++([(zf ((za s4.2.1 43).getD i6 default)).1]:List Int)))
def zi (a0:(List UInt8)):(Character×Bool):=
 (bif (decide (4<(a0.length:Int)) && (((a0.take a0.length).drop ((IntKind.wrap .i64 ((a0.length:Int)-4)).toNat)) == [43,76,70,108]))then(match y3 (ysu a0) (((a0.length-(0:Int)).toNat)+1) (a0.take ((IntKind.wrap .i64 ((a0.length:Int)-4)).toNat),[],0)with|.error (.inl e)=>e|.error (.inr s1)=>(match ye (ywp a0 s1) (((zo ).length)-1) 1 0 with|.error e=>e|.ok s2=>(bif (s2 == 8)then({ Kind:=s2,Group:=[],Letter:=[76]++s1.2.1,Colors:=[],Period:=0:Character },true)else(bif (s1.2.1 == [])then({ Kind:=s2,Group:=[],Letter:=[76],Colors:=[],Period:=0:Character },decide (0<s2))else(match ye (ypn a0 s1 s2) (((za s1.2.1 43).length)-0) 0 ([]:List Int)with|.error e=>e|.ok s3=>({ Kind:=s2,Group:=s3,Letter:=[76],Colors:=[],Period:=0:Character },decide (0<s2))))))|.ok _=>default)else(match y3 (y22 a0) (((a0.length-(0:Int)).toNat)+1) (a0,[],0)with|.error (.inl e)=>e|.error (.inr s4)=>(match ye (yzm a0 s4) (((zo ).length)-1) 1 0 with|.error e=>e|.ok s5=>(bif (s5 == 8)then({ Kind:=s5,Group:=[],Letter:=[]++s4.2.1,Colors:=[],Period:=0:Character },true)else(bif (s4.2.1 == [])then({ Kind:=s5,Group:=[],Letter:=[],Colors:=[],Period:=0:Character },decide (0<s5))else(match ye (ysn a0 s4 s5) (((za s4.2.1 43).length)-0) 0 ([]:List Int)with|.error e=>e|.ok s6=>({ Kind:=s5,Group:=s6,Letter:=[],Colors:=[],Period:=0:Character },decide (0<s5))))))|.ok _=>default))
namespace N298
theorem DD:DOk Tryz.prog (Go.Ab.DD [(165,dP D_za),(168,dP D_zf),(279,dP D_zo)]):=ya yvh.e <| ya ynj.e <| ya y71.e <| yc _
theorem dn:type_of% (And.intro @D_za.eq_1 <| And.intro @D_zf.eq_1 <| @D_zo.eq_1):=by and_intros<;>intros<;>rfl
theorem gr {p:Prop} (h:p:=by(grind [y4,yfc]);first|done|fail):p:=h
theorem o0 {p:Prop} (h:p:=by(first|(exact yyz _ _ (by omega) (of_decide_eq_true (by assumption)) (by omega) hb)|(refine⟨⟨by omega,by omega⟩,by omega,yfc _ _ (by first|omega|(simp only[List.length_drop,List.length_take];omega))⟩)|(have h9:=y4 (List.drop (IntKind.wrap .i64 (s1.2.2+1)).toNat (List.take (IntKind.wrap .i64 ((s1.1.length:Int)-1)).toNat s1.1)) (by simp only[List.length_drop,List.length_take];omega);first|omega|(and_intros<;>omega))|(have h9:=y4 s1.2.1 (by omega);first|omega|(and_intros<;>omega))|(have h9:=y4 (List.drop (IntKind.wrap .i64 (s4.2.2+1)).toNat (List.take (IntKind.wrap .i64 ((s4.1.length:Int)-1)).toNat s4.1)) (by simp only[List.length_drop,List.length_take];omega);first|omega|(and_intros<;>omega))|(have h9:=y4 s4.2.1 (by omega);first|omega|(and_intros<;>omega))|(simp only[List.length_drop,List.length_take];omega)|(and_intros<;>first|omega|(simp only[List.length_drop,List.length_take];omega)));first|done|fail):p:=h
theorem o2 {p:Prop} (h:p:=by(first|(and_intros<;>first|omega|(rw[IntKind.wrap_i64];omega)|(intro i hi;exact yff _ _ i hi)|(intro i hi;rw[yff _ _ i hi];exact yab _)|(simp only[List.length_append,List.length_singleton];(first|done|fail))|(rw[IntKind.wrap_i64];first|(have h9:=y4 (List.drop (IntKind.wrap .i64 (s1.2.2+1)).toNat (List.take (IntKind.wrap .i64 ((s1.1.length:Int)-1)).toNat s1.1)) (by simp only[List.length_drop,List.length_take];omega);first|omega|(and_intros<;>omega))|(have h9:=y4 s1.2.1 (by omega);first|omega|(and_intros<;>omega))|(have h9:=y4 (List.drop (IntKind.wrap .i64 (s4.2.2+1)).toNat (List.take (IntKind.wrap .i64 ((s4.1.length:Int)-1)).toNat s4.1)) (by simp only[List.length_drop,List.length_take];omega);first|omega|(and_intros<;>omega))|(have h9:=y4 s4.2.1 (by omega);first|omega|(and_intros<;>omega)))|(simp;(first|done|fail))));first|done|fail):p:=h
set_option maxHeartbeats 2000000 in
set_option maxRecDepth 20000 in
theorem den (a0:(List UInt8)) (hb0:a0.length<1099511627776) (hp0:a0.length≤1048576):Den Tryz.prog 298 [.str a0] (.tup [.agg (y8 ((zi a0).1)),.bool ((zi a0).2)]):=by
 generalize hR:zi a0=r
 unfold zi at hR
 refine di Tryz.func298 Tryz.ntmps298 Tryz.results298 ?_
 intro c hL hc hk
 obtain⟨hL0,_⟩:=hL
 have hw0:a0.length<9223372036854775808:=Nat.lt_succ_of_le hL0
 clear hL0
 simp only[pars,Nat.zero_add]
 have hk8:zo.length=9:=rfl
 iterate 3 refine rS ?_
 refine AWP.cond rfl (fun hb => ?_) (fun hb => ?_)
 ·replace hR:=ct hR
  iterate 4 refine rS ?_
  refine AWP.block ?_
  generalize hz1:y3 (ysu a0) (((a0.length-(0:Int)).toNat)+1) (a0.take ((IntKind.wrap .i64 ((a0.length:Int)-4)).toNat),[],0)=z1 at hR
  refine AWP.whileW (ysu a0) (fun s1=>⟨[(0,.str s1.1),(2,.ptr 0 0),(4,.ptr 1 0),(5,.str s1.2.1),(6,.int .i64 s1.2.2)],[.box [.int .i64 0,.nils,.str [],.str [],.int .i64 0],.box [.int .i64 0,.nils,.str [76],.str [],.int .i64 0]]⟩) (fun s1=>0≤s1.2.2∧s1.2.2≤s1.1.length∧s1.1.length≤a0.length∧s1.2.1.length≤1048576) (fun s1=>(a0.length-s1.2.2).toNat) (((a0.length-(0:Int)).toNat)+1) (a0.take ((IntKind.wrap .i64 ((a0.length:Int)-4)).toNat),[],0) [0,1] hz1 m0 wt sm ?_
  clear hz1
  intro s1 k1 hW1 hm1 hz1
  simp only[ysu]at hz1
  refine rS ?_
  refine AWP.cond rfl (fun hb => ?_) (fun hb => ?_)
  ·simp only[hb,cond_true]at hz1
   refine rS ?_
   refine AWP.cond rfl (fun hb => ?_) (fun hb => ?_)
   ·simp only[hb,cond_true]at hz1
    iterate 2 refine rS ?_
    refine AWP.exit ?_
    refine yhg rfl ?_
    refine yb ?_
    subst hz1;dsimp only at hR
    iterate 2 refine rS ?_
    refine AWP.block ?_
    generalize hz2:ye (ywp a0 (s1.1.take ((s1.2.2).toNat),(s1.1.take ((IntKind.wrap .i64 ((s1.1.length:Int)-1)).toNat)).drop ((IntKind.wrap .i64 (s1.2.2+1)).toNat),s1.2.2)) (((zo ).length)-1) 1 0=z2 at hR
    refine AWP.range (ywp a0 (s1.1.take ((s1.2.2).toNat),(s1.1.take ((IntKind.wrap .i64 ((s1.1.length:Int)-1)).toNat)).drop ((IntKind.wrap .i64 (s1.2.2+1)).toNat),s1.2.2)) (fun i2 s2=>⟨[(0,.str (s1.1.take ((s1.2.2).toNat))),(2,.ptr 0 0),(4,.ptr 1 0),(5,.str ((s1.1.take ((IntKind.wrap .i64 ((s1.1.length:Int)-1)).toNat)).drop ((IntKind.wrap .i64 (s1.2.2+1)).toNat))),(7,.ref 2 1 0 ((zo ).length)),(8,.int .i64 (i2:Int))],[.box [.int .i64 0,.nils,.str [],.str [],.int .i64 0],.box [.int .i64 s2,.nils,.str [76],.str [],.int .i64 0],.arr 9 1 (zo ).length (fun j=>eS ((zo ).getD j default))]⟩) (fun i2 s2=>1≤i2) (((zo ).length)) 1 0 [0,1,2] hz2 ot wt sm ?_
    clear hz2
    intro i2 s2 hi2 hW2 hz2
    refine rS ?_
    refine AWP.cond rfl (fun hb => ?_) (fun hb => ?_)
    ·have hlt2:i2<((zo ).length):=ot
     rw[yj hlt2]at hz2;simp only[ywp]at hz2
     refine rS ?_
     refine AWP.cond rfl (fun hb => ?_) (fun hb => ?_)
     ·simp only[hb,cond_true]at hz2
      iterate 2 refine rS ?_
      exact⟨_,[0,1,2],hlt2,wt,hz2,sm⟩
     ·simp only[hb,cond_false]at hz2
      refine rS ?_
      exact⟨_,[0,1,2],hlt2,wt,hz2,sm⟩
    ·obtain rfl:i2=((zo ).length):=ot
     rw[yi (Nat.le_refl _)]at hz2;subst hz2;dsimp only at hR
     refine AWP.exit ?_;refine yb ?_
     refine rS ?_
     refine AWP.cond rfl (fun hb => ?_) (fun hb => ?_)
     ·replace hR:=ct hR
      iterate 2 refine rS ?_
      refine AWP.ret ?_
      subst hR
      exact es
     ·replace hR:=cf hR
      refine rS ?_
      refine AWP.cond rfl (fun hb => ?_) (fun hb => ?_)
      ·replace hR:=ct hR
       refine AWP.seq ?_
       refine AWP.regP mixed G_ok DD hc 5 [0,1,2,3] (.alt 4 [] [1,2,3] .leaf .stop) (by kernel_rfl) (by kernel_rfl) (by kernel_rfl) (fun K hK => ?_);simp only[y4f,runN,runP,yub,nthO,ea,absV,absVL,cput,gv,sv,dn,reduceCtorEq,reduceIte,Nat.reduceBEq,Nat.reduceAdd,Nat.reduceEqDiff,Nat.reduceLT,Nat.reduceLeDiff,Nat.reduceMul,Nat.reduceSub,BEq.rfl,beq_self_eq_true,Int.reduceToNat]
       repeat' apply And.intro
       all_goals first|refine hK _ ?_|exact ot
       all_goals clear hK K
       refine AWP.ret ?_
       subst hR
       exact es
      ·replace hR:=cf hR
       iterate 2 refine rS ?_
       refine AWP.block ?_
       refine AWP.nilB 1 1 2 1 (fun _=>[]) rfl rfl ?_;try simp only[ea,absV,absVL,cput,gv,sv,dn,reduceCtorEq,reduceIte,Nat.reduceBEq,Nat.reduceAdd,Nat.reduceEqDiff,Nat.reduceLT,Nat.reduceLeDiff,Nat.reduceMul,Nat.reduceSub,BEq.rfl,beq_self_eq_true,Int.reduceToNat]
       generalize hz3:ye (ypn a0 (s1.1.take ((s1.2.2).toNat),(s1.1.take ((IntKind.wrap .i64 ((s1.1.length:Int)-1)).toNat)).drop ((IntKind.wrap .i64 (s1.2.2+1)).toNat),s1.2.2) s2) (((za ((s1.1.take ((IntKind.wrap .i64 ((s1.1.length:Int)-1)).toNat)).drop ((IntKind.wrap .i64 (s1.2.2+1)).toNat)) 43).length)-0) 0 ([]:List Int)=z3 at hR
       refine AWP.range (ypn a0 (s1.1.take ((s1.2.2).toNat),(s1.1.take ((IntKind.wrap .i64 ((s1.1.length:Int)-1)).toNat)).drop ((IntKind.wrap .i64 (s1.2.2+1)).toNat),s1.2.2) s2) (fun i3 s3=>⟨[(2,.ptr 0 0),(4,.ptr 1 0),(9,.ref 3 1 0 ((za ((s1.1.take ((IntKind.wrap .i64 ((s1.1.length:Int)-1)).toNat)).drop ((IntKind.wrap .i64 (s1.2.2+1)).toNat)) 43).length)),(10,.int .i64 (i3:Int))],[.box [.int .i64 0,.nils,.str [],.str [],.int .i64 0],.box [.int .i64 s2,.ref 2 1 0 s3.length,.str [76],.str [],.int .i64 0],.arr 2 1 s3.length (fun j=>yr (s3.getD j default)),.arr 9 1 (za ((s1.1.take ((IntKind.wrap .i64 ((s1.1.length:Int)-1)).toNat)).drop ((IntKind.wrap .i64 (s1.2.2+1)).toNat)) 43).length (fun j=>eS ((za ((s1.1.take ((IntKind.wrap .i64 ((s1.1.length:Int)-1)).toNat)).drop ((IntKind.wrap .i64 (s1.2.2+1)).toNat)) 43).getD j default))]⟩) (fun i3 s3=>s3.length≤([]:List Int).length+1 * i3∧s3.length≤i3) (((za ((s1.1.take ((IntKind.wrap .i64 ((s1.1.length:Int)-1)).toNat)).drop ((IntKind.wrap .i64 (s1.2.2+1)).toNat)) 43).length)) 0 ([]:List Int) [0,1,4,3] hz3 ot wt sm ?_
       clear hz3
       intro i3 s3 hi3 hW3 hz3
       refine rS ?_
       refine AWP.cond rfl (fun hb => ?_) (fun hb => ?_)
       ·have hlt3:i3<((za ((s1.1.take ((IntKind.wrap .i64 ((s1.1.length:Int)-1)).toNat)).drop ((IntKind.wrap .i64 (s1.2.2+1)).toNat)) 43).length):=ot
        rw[yj hlt3]at hz3;simp only[ypn]at hz3
        iterate 2 refine rS ?_
        refine AWP.cond rfl (fun hb => ?_) (fun hb => ?_)
        ·simp only[hb,cond_true]at hz3
         refine rS ?_
         refine AWP.ret ?_
         subst hz3
         dsimp only at hR
         subst hR
         exact es
        ·simp only[hb,cond_false]at hz3
         iterate 2 refine rS ?_
         exact⟨_,[0,1,5,3],hlt3,by(simp only[List.length_append,List.length_singleton];omega),hz3,sm⟩
       ·obtain rfl:i3=((za ((s1.1.take ((IntKind.wrap .i64 ((s1.1.length:Int)-1)).toNat)).drop ((IntKind.wrap .i64 (s1.2.2+1)).toNat)) 43).length):=ot
        rw[yi (Nat.le_refl _)]at hz3;subst hz3;dsimp only at hR
        refine AWP.exit ?_;refine yb ?_
        refine AWP.seq ?_
        refine AWP.regP mixed G_ok DD hc 5 [0,1,2,3] (.alt 4 [] [1,2,3] .leaf .stop) (by kernel_rfl) (by kernel_rfl) (by kernel_rfl) (fun K hK => ?_);simp only[y4f,runN,runP,yub,nthO,ea,absV,absVL,cput,gv,sv,dn,reduceCtorEq,reduceIte,Nat.reduceBEq,Nat.reduceAdd,Nat.reduceEqDiff,Nat.reduceLT,Nat.reduceLeDiff,Nat.reduceMul,Nat.reduceSub,BEq.rfl,beq_self_eq_true,Int.reduceToNat]
        repeat' apply And.intro
        all_goals first|refine hK _ ?_|exact ot
        all_goals clear hK K
        refine AWP.ret ?_
        subst hR
        exact es
   ·simp only[hb,cond_false]at hz1
    refine rS ?_
    exact⟨_,[0,1],ms,wt,hz1,sm⟩
  ·simp only[hb,cond_false]at hz1
   refine AWP.exit ?_
   refine yb ?_
   subst hz1;dsimp only at hR
   iterate 2 refine rS ?_
   refine AWP.block ?_
   generalize hz2:ye (ywp a0 (s1.1,s1.2.1,s1.2.2)) (((zo ).length)-1) 1 0=z2 at hR
   refine AWP.range (ywp a0 (s1.1,s1.2.1,s1.2.2)) (fun i2 s2=>⟨[(0,.str s1.1),(2,.ptr 0 0),(4,.ptr 1 0),(5,.str s1.2.1),(7,.ref 2 1 0 ((zo ).length)),(8,.int .i64 (i2:Int))],[.box [.int .i64 0,.nils,.str [],.str [],.int .i64 0],.box [.int .i64 s2,.nils,.str [76],.str [],.int .i64 0],.arr 9 1 (zo ).length (fun j=>eS ((zo ).getD j default))]⟩) (fun i2 s2=>1≤i2) (((zo ).length)) 1 0 [0,1,2] hz2 ot wt sm ?_
   clear hz2
   intro i2 s2 hi2 hW2 hz2
   refine rS ?_
   refine AWP.cond rfl (fun hb => ?_) (fun hb => ?_)
   ·have hlt2:i2<((zo ).length):=ot
    rw[yj hlt2]at hz2;simp only[ywp]at hz2
    refine rS ?_
    refine AWP.cond rfl (fun hb => ?_) (fun hb => ?_)
    ·simp only[hb,cond_true]at hz2
     iterate 2 refine rS ?_
     exact⟨_,[0,1,2],hlt2,wt,hz2,sm⟩
    ·simp only[hb,cond_false]at hz2
     refine rS ?_
     exact⟨_,[0,1,2],hlt2,wt,hz2,sm⟩
   ·obtain rfl:i2=((zo ).length):=ot
    rw[yi (Nat.le_refl _)]at hz2;subst hz2;dsimp only at hR
    refine AWP.exit ?_;refine yb ?_
    refine rS ?_
    refine AWP.cond rfl (fun hb => ?_) (fun hb => ?_)
    ·replace hR:=ct hR
     iterate 2 refine rS ?_
     refine AWP.ret ?_
     subst hR
     exact es
    ·replace hR:=cf hR
     refine rS ?_
     refine AWP.cond rfl (fun hb => ?_) (fun hb => ?_)
     ·replace hR:=ct hR
      refine AWP.seq ?_
      refine AWP.regP mixed G_ok DD hc 5 [0,1,2,3] (.alt 4 [] [1,2,3] .leaf .stop) (by kernel_rfl) (by kernel_rfl) (by kernel_rfl) (fun K hK => ?_);simp only[y4f,runN,runP,yub,nthO,ea,absV,absVL,cput,gv,sv,dn,reduceCtorEq,reduceIte,Nat.reduceBEq,Nat.reduceAdd,Nat.reduceEqDiff,Nat.reduceLT,Nat.reduceLeDiff,Nat.reduceMul,Nat.reduceSub,BEq.rfl,beq_self_eq_true,Int.reduceToNat]
      repeat' apply And.intro
      all_goals first|refine hK _ ?_|exact ot
      all_goals clear hK K
      refine AWP.ret ?_
      subst hR
      exact es
     ·replace hR:=cf hR
      iterate 2 refine rS ?_
      refine AWP.block ?_
      refine AWP.nilB 1 1 2 1 (fun _=>[]) rfl rfl ?_;try simp only[ea,absV,absVL,cput,gv,sv,dn,reduceCtorEq,reduceIte,Nat.reduceBEq,Nat.reduceAdd,Nat.reduceEqDiff,Nat.reduceLT,Nat.reduceLeDiff,Nat.reduceMul,Nat.reduceSub,BEq.rfl,beq_self_eq_true,Int.reduceToNat]
      generalize hz3:ye (ypn a0 (s1.1,s1.2.1,s1.2.2) s2) (((za s1.2.1 43).length)-0) 0 ([]:List Int)=z3 at hR
      refine AWP.range (ypn a0 (s1.1,s1.2.1,s1.2.2) s2) (fun i3 s3=>⟨[(2,.ptr 0 0),(4,.ptr 1 0),(9,.ref 3 1 0 ((za s1.2.1 43).length)),(10,.int .i64 (i3:Int))],[.box [.int .i64 0,.nils,.str [],.str [],.int .i64 0],.box [.int .i64 s2,.ref 2 1 0 s3.length,.str [76],.str [],.int .i64 0],.arr 2 1 s3.length (fun j=>yr (s3.getD j default)),.arr 9 1 (za s1.2.1 43).length (fun j=>eS ((za s1.2.1 43).getD j default))]⟩) (fun i3 s3=>s3.length≤([]:List Int).length+1 * i3∧s3.length≤i3) (((za s1.2.1 43).length)) 0 ([]:List Int) [0,1,4,3] hz3 ot wt sm ?_
      clear hz3
      intro i3 s3 hi3 hW3 hz3
      refine rS ?_
      refine AWP.cond rfl (fun hb => ?_) (fun hb => ?_)
      ·have hlt3:i3<((za s1.2.1 43).length):=ot
       rw[yj hlt3]at hz3;simp only[ypn]at hz3
       iterate 2 refine rS ?_
       refine AWP.cond rfl (fun hb => ?_) (fun hb => ?_)
       ·simp only[hb,cond_true]at hz3
        refine rS ?_
        refine AWP.ret ?_
        subst hz3
        dsimp only at hR
        subst hR
        exact es
       ·simp only[hb,cond_false]at hz3
        iterate 2 refine rS ?_
        exact⟨_,[0,1,5,3],hlt3,by(simp only[List.length_append,List.length_singleton];omega),hz3,sm⟩
      ·obtain rfl:i3=((za s1.2.1 43).length):=ot
       rw[yi (Nat.le_refl _)]at hz3;subst hz3;dsimp only at hR
       refine AWP.exit ?_;refine yb ?_
       refine AWP.seq ?_
       refine AWP.regP mixed G_ok DD hc 5 [0,1,2,3] (.alt 4 [] [1,2,3] .leaf .stop) (by kernel_rfl) (by kernel_rfl) (by kernel_rfl) (fun K hK => ?_);simp only[y4f,runN,runP,yub,nthO,ea,absV,absVL,cput,gv,sv,dn,reduceCtorEq,reduceIte,Nat.reduceBEq,Nat.reduceAdd,Nat.reduceEqDiff,Nat.reduceLT,Nat.reduceLeDiff,Nat.reduceMul,Nat.reduceSub,BEq.rfl,beq_self_eq_true,Int.reduceToNat]
       repeat' apply And.intro
       all_goals first|refine hK _ ?_|exact ot
       all_goals clear hK K
       refine AWP.ret ?_
       subst hR
       exact es
 ·replace hR:=cf hR
  iterate 2 refine rS ?_
  refine AWP.block ?_
  generalize hz4:y3 (y22 a0) (((a0.length-(0:Int)).toNat)+1) (a0,[],0)=z4 at hR
  refine AWP.whileW (y22 a0) (fun s4=>⟨[(0,.str s4.1),(2,.ptr 0 0),(4,.ptr 1 0),(5,.str s4.2.1),(6,.int .i64 s4.2.2)],[.box [.int .i64 0,.nils,.str [],.str [],.int .i64 0],.box [.int .i64 0,.nils,.str [],.str [],.int .i64 0]]⟩) (fun s4=>0≤s4.2.2∧s4.2.2≤s4.1.length∧s4.1.length≤a0.length∧s4.2.1.length≤1048576) (fun s4=>(a0.length-s4.2.2).toNat) (((a0.length-(0:Int)).toNat)+1) (a0,[],0) [0,1] hz4 m0 wt sm ?_
  clear hz4
  intro s4 k4 hW4 hm4 hz4
  simp only[y22]at hz4
  refine rS ?_
  refine AWP.cond rfl (fun hb => ?_) (fun hb => ?_)
  ·simp only[hb,cond_true]at hz4
   refine rS ?_
   refine AWP.cond rfl (fun hb => ?_) (fun hb => ?_)
   ·simp only[hb,cond_true]at hz4
    iterate 2 refine rS ?_
    refine AWP.exit ?_
    refine yhg rfl ?_
    refine yb ?_
    subst hz4;dsimp only at hR
    iterate 2 refine rS ?_
    refine AWP.block ?_
    generalize hz5:ye (yzm a0 (s4.1.take ((s4.2.2).toNat),(s4.1.take ((IntKind.wrap .i64 ((s4.1.length:Int)-1)).toNat)).drop ((IntKind.wrap .i64 (s4.2.2+1)).toNat),s4.2.2)) (((zo ).length)-1) 1 0=z5 at hR
    refine AWP.range (yzm a0 (s4.1.take ((s4.2.2).toNat),(s4.1.take ((IntKind.wrap .i64 ((s4.1.length:Int)-1)).toNat)).drop ((IntKind.wrap .i64 (s4.2.2+1)).toNat),s4.2.2)) (fun i5 s5=>⟨[(0,.str (s4.1.take ((s4.2.2).toNat))),(2,.ptr 0 0),(4,.ptr 1 0),(5,.str ((s4.1.take ((IntKind.wrap .i64 ((s4.1.length:Int)-1)).toNat)).drop ((IntKind.wrap .i64 (s4.2.2+1)).toNat))),(7,.ref 2 1 0 ((zo ).length)),(8,.int .i64 (i5:Int))],[.box [.int .i64 0,.nils,.str [],.str [],.int .i64 0],.box [.int .i64 s5,.nils,.str [],.str [],.int .i64 0],.arr 9 1 (zo ).length (fun j=>eS ((zo ).getD j default))]⟩) (fun i5 s5=>1≤i5) (((zo ).length)) 1 0 [0,1,2] hz5 ot wt sm ?_
    clear hz5
    intro i5 s5 hi5 hW5 hz5
    refine rS ?_
    refine AWP.cond rfl (fun hb => ?_) (fun hb => ?_)
    ·have hlt5:i5<((zo ).length):=ot
     rw[yj hlt5]at hz5;simp only[yzm]at hz5
     refine rS ?_
     refine AWP.cond rfl (fun hb => ?_) (fun hb => ?_)
     ·simp only[hb,cond_true]at hz5
      iterate 2 refine rS ?_
      exact⟨_,[0,1,2],hlt5,wt,hz5,sm⟩
     ·simp only[hb,cond_false]at hz5
      refine rS ?_
      exact⟨_,[0,1,2],hlt5,wt,hz5,sm⟩
    ·obtain rfl:i5=((zo ).length):=ot
     rw[yi (Nat.le_refl _)]at hz5;subst hz5;dsimp only at hR
     refine AWP.exit ?_;refine yb ?_
     refine rS ?_
     refine AWP.cond rfl (fun hb => ?_) (fun hb => ?_)
     ·replace hR:=ct hR
      iterate 2 refine rS ?_
      refine AWP.ret ?_
      subst hR
      exact es
     ·replace hR:=cf hR
      refine rS ?_
      refine AWP.cond rfl (fun hb => ?_) (fun hb => ?_)
      ·replace hR:=ct hR
       refine AWP.seq ?_
       refine AWP.regP mixed G_ok DD hc 5 [0,1,2,3] (.alt 4 [] [1,2,3] .leaf .stop) (by kernel_rfl) (by kernel_rfl) (by kernel_rfl) (fun K hK => ?_);simp only[y4f,runN,runP,yub,nthO,ea,absV,absVL,cput,gv,sv,dn,reduceCtorEq,reduceIte,Nat.reduceBEq,Nat.reduceAdd,Nat.reduceEqDiff,Nat.reduceLT,Nat.reduceLeDiff,Nat.reduceMul,Nat.reduceSub,BEq.rfl,beq_self_eq_true,Int.reduceToNat]
       repeat' apply And.intro
       all_goals first|refine hK _ ?_|exact ot
       all_goals clear hK K
       refine AWP.ret ?_
       subst hR
       exact es
      ·replace hR:=cf hR
       iterate 2 refine rS ?_
       refine AWP.block ?_
       refine AWP.nilB 1 1 2 1 (fun _=>[]) rfl rfl ?_;try simp only[ea,absV,absVL,cput,gv,sv,dn,reduceCtorEq,reduceIte,Nat.reduceBEq,Nat.reduceAdd,Nat.reduceEqDiff,Nat.reduceLT,Nat.reduceLeDiff,Nat.reduceMul,Nat.reduceSub,BEq.rfl,beq_self_eq_true,Int.reduceToNat]
       generalize hz6:ye (ysn a0 (s4.1.take ((s4.2.2).toNat),(s4.1.take ((IntKind.wrap .i64 ((s4.1.length:Int)-1)).toNat)).drop ((IntKind.wrap .i64 (s4.2.2+1)).toNat),s4.2.2) s5) (((za ((s4.1.take ((IntKind.wrap .i64 ((s4.1.length:Int)-1)).toNat)).drop ((IntKind.wrap .i64 (s4.2.2+1)).toNat)) 43).length)-0) 0 ([]:List Int)=z6 at hR
       refine AWP.range (ysn a0 (s4.1.take ((s4.2.2).toNat),(s4.1.take ((IntKind.wrap .i64 ((s4.1.length:Int)-1)).toNat)).drop ((IntKind.wrap .i64 (s4.2.2+1)).toNat),s4.2.2) s5) (fun i6 s6=>⟨[(2,.ptr 0 0),(4,.ptr 1 0),(9,.ref 3 1 0 ((za ((s4.1.take ((IntKind.wrap .i64 ((s4.1.length:Int)-1)).toNat)).drop ((IntKind.wrap .i64 (s4.2.2+1)).toNat)) 43).length)),(10,.int .i64 (i6:Int))],[.box [.int .i64 0,.nils,.str [],.str [],.int .i64 0],.box [.int .i64 s5,.ref 2 1 0 s6.length,.str [],.str [],.int .i64 0],.arr 2 1 s6.length (fun j=>yr (s6.getD j default)),.arr 9 1 (za ((s4.1.take ((IntKind.wrap .i64 ((s4.1.length:Int)-1)).toNat)).drop ((IntKind.wrap .i64 (s4.2.2+1)).toNat)) 43).length (fun j=>eS ((za ((s4.1.take ((IntKind.wrap .i64 ((s4.1.length:Int)-1)).toNat)).drop ((IntKind.wrap .i64 (s4.2.2+1)).toNat)) 43).getD j default))]⟩) (fun i6 s6=>s6.length≤([]:List Int).length+1 * i6∧s6.length≤i6) (((za ((s4.1.take ((IntKind.wrap .i64 ((s4.1.length:Int)-1)).toNat)).drop ((IntKind.wrap .i64 (s4.2.2+1)).toNat)) 43).length)) 0 ([]:List Int) [0,1,4,3] hz6 ot wt sm ?_
       clear hz6
       intro i6 s6 hi6 hW6 hz6
       refine rS ?_
       refine AWP.cond rfl (fun hb => ?_) (fun hb => ?_)
       ·have hlt6:i6<((za ((s4.1.take ((IntKind.wrap .i64 ((s4.1.length:Int)-1)).toNat)).drop ((IntKind.wrap .i64 (s4.2.2+1)).toNat)) 43).length):=ot
        rw[yj hlt6]at hz6;simp only[ysn]at hz6
        iterate 2 refine rS ?_
        refine AWP.cond rfl (fun hb => ?_) (fun hb => ?_)
        ·simp only[hb,cond_true]at hz6
         refine rS ?_
         refine AWP.ret ?_
         subst hz6
         dsimp only at hR
         subst hR
         exact es
        ·simp only[hb,cond_false]at hz6
         iterate 2 refine rS ?_
         exact⟨_,[0,1,5,3],hlt6,by(simp only[List.length_append,List.length_singleton];omega),hz6,sm⟩
       ·obtain rfl:i6=((za ((s4.1.take ((IntKind.wrap .i64 ((s4.1.length:Int)-1)).toNat)).drop ((IntKind.wrap .i64 (s4.2.2+1)).toNat)) 43).length):=ot
        rw[yi (Nat.le_refl _)]at hz6;subst hz6;dsimp only at hR
        refine AWP.exit ?_;refine yb ?_
        refine AWP.seq ?_
        refine AWP.regP mixed G_ok DD hc 5 [0,1,2,3] (.alt 4 [] [1,2,3] .leaf .stop) (by kernel_rfl) (by kernel_rfl) (by kernel_rfl) (fun K hK => ?_);simp only[y4f,runN,runP,yub,nthO,ea,absV,absVL,cput,gv,sv,dn,reduceCtorEq,reduceIte,Nat.reduceBEq,Nat.reduceAdd,Nat.reduceEqDiff,Nat.reduceLT,Nat.reduceLeDiff,Nat.reduceMul,Nat.reduceSub,BEq.rfl,beq_self_eq_true,Int.reduceToNat]
        repeat' apply And.intro
        all_goals first|refine hK _ ?_|exact ot
        all_goals clear hK K
        refine AWP.ret ?_
        subst hR
        exact es
   ·simp only[hb,cond_false]at hz4
    refine rS ?_
    exact⟨_,[0,1],ms,wt,hz4,sm⟩
  ·simp only[hb,cond_false]at hz4
   refine AWP.exit ?_
   refine yb ?_
   subst hz4;dsimp only at hR
   iterate 2 refine rS ?_
   refine AWP.block ?_
   generalize hz5:ye (yzm a0 (s4.1,s4.2.1,s4.2.2)) (((zo ).length)-1) 1 0=z5 at hR
   refine AWP.range (yzm a0 (s4.1,s4.2.1,s4.2.2)) (fun i5 s5=>⟨[(0,.str s4.1),(2,.ptr 0 0),(4,.ptr 1 0),(5,.str s4.2.1),(7,.ref 2 1 0 ((zo ).length)),(8,.int .i64 (i5:Int))],[.box [.int .i64 0,.nils,.str [],.str [],.int .i64 0],.box [.int .i64 s5,.nils,.str [],.str [],.int .i64 0],.arr 9 1 (zo ).length (fun j=>eS ((zo ).getD j default))]⟩) (fun i5 s5=>1≤i5) (((zo ).length)) 1 0 [0,1,2] hz5 ot wt sm ?_
   clear hz5
   intro i5 s5 hi5 hW5 hz5
   refine rS ?_
   refine AWP.cond rfl (fun hb => ?_) (fun hb => ?_)
   ·have hlt5:i5<((zo ).length):=ot
    rw[yj hlt5]at hz5;simp only[yzm]at hz5
    refine rS ?_
    refine AWP.cond rfl (fun hb => ?_) (fun hb => ?_)
    ·simp only[hb,cond_true]at hz5
     iterate 2 refine rS ?_
     exact⟨_,[0,1,2],hlt5,wt,hz5,sm⟩
    ·simp only[hb,cond_false]at hz5
     refine rS ?_
     exact⟨_,[0,1,2],hlt5,wt,hz5,sm⟩
   ·obtain rfl:i5=((zo ).length):=ot
    rw[yi (Nat.le_refl _)]at hz5;subst hz5;dsimp only at hR
    refine AWP.exit ?_;refine yb ?_
    refine rS ?_
    refine AWP.cond rfl (fun hb => ?_) (fun hb => ?_)
    ·replace hR:=ct hR
     iterate 2 refine rS ?_
     refine AWP.ret ?_
     subst hR
     exact es
    ·replace hR:=cf hR
     refine rS ?_
     refine AWP.cond rfl (fun hb => ?_) (fun hb => ?_)
     ·replace hR:=ct hR
      refine AWP.seq ?_
      refine AWP.regP mixed G_ok DD hc 5 [0,1,2,3] (.alt 4 [] [1,2,3] .leaf .stop) (by kernel_rfl) (by kernel_rfl) (by kernel_rfl) (fun K hK => ?_);simp only[y4f,runN,runP,yub,nthO,ea,absV,absVL,cput,gv,sv,dn,reduceCtorEq,reduceIte,Nat.reduceBEq,Nat.reduceAdd,Nat.reduceEqDiff,Nat.reduceLT,Nat.reduceLeDiff,Nat.reduceMul,Nat.reduceSub,BEq.rfl,beq_self_eq_true,Int.reduceToNat]
      repeat' apply And.intro
      all_goals first|refine hK _ ?_|exact ot
      all_goals clear hK K
      refine AWP.ret ?_
      subst hR
      exact es
     ·replace hR:=cf hR
      iterate 2 refine rS ?_
      refine AWP.block ?_
      refine AWP.nilB 1 1 2 1 (fun _=>[]) rfl rfl ?_;try simp only[ea,absV,absVL,cput,gv,sv,dn,reduceCtorEq,reduceIte,Nat.reduceBEq,Nat.reduceAdd,Nat.reduceEqDiff,Nat.reduceLT,Nat.reduceLeDiff,Nat.reduceMul,Nat.reduceSub,BEq.rfl,beq_self_eq_true,Int.reduceToNat]
      generalize hz6:ye (ysn a0 (s4.1,s4.2.1,s4.2.2) s5) (((za s4.2.1 43).length)-0) 0 ([]:List Int)=z6 at hR
      refine AWP.range (ysn a0 (s4.1,s4.2.1,s4.2.2) s5) (fun i6 s6=>⟨[(2,.ptr 0 0),(4,.ptr 1 0),(9,.ref 3 1 0 ((za s4.2.1 43).length)),(10,.int .i64 (i6:Int))],[.box [.int .i64 0,.nils,.str [],.str [],.int .i64 0],.box [.int .i64 s5,.ref 2 1 0 s6.length,.str [],.str [],.int .i64 0],.arr 2 1 s6.length (fun j=>yr (s6.getD j default)),.arr 9 1 (za s4.2.1 43).length (fun j=>eS ((za s4.2.1 43).getD j default))]⟩) (fun i6 s6=>s6.length≤([]:List Int).length+1 * i6∧s6.length≤i6) (((za s4.2.1 43).length)) 0 ([]:List Int) [0,1,4,3] hz6 ot wt sm ?_
      clear hz6
      intro i6 s6 hi6 hW6 hz6
      refine rS ?_
      refine AWP.cond rfl (fun hb => ?_) (fun hb => ?_)
      ·have hlt6:i6<((za s4.2.1 43).length):=ot
       rw[yj hlt6]at hz6;simp only[ysn]at hz6
       iterate 2 refine rS ?_
       refine AWP.cond rfl (fun hb => ?_) (fun hb => ?_)
       ·simp only[hb,cond_true]at hz6
        refine rS ?_
        refine AWP.ret ?_
        subst hz6
        dsimp only at hR
        subst hR
        exact es
       ·simp only[hb,cond_false]at hz6
        iterate 2 refine rS ?_
        exact⟨_,[0,1,5,3],hlt6,by(simp only[List.length_append,List.length_singleton];omega),hz6,sm⟩
      ·obtain rfl:i6=((za s4.2.1 43).length):=ot
       rw[yi (Nat.le_refl _)]at hz6;subst hz6;dsimp only at hR
       refine AWP.exit ?_;refine yb ?_
       refine AWP.seq ?_
       refine AWP.regP mixed G_ok DD hc 5 [0,1,2,3] (.alt 4 [] [1,2,3] .leaf .stop) (by kernel_rfl) (by kernel_rfl) (by kernel_rfl) (fun K hK => ?_);simp only[y4f,runN,runP,yub,nthO,ea,absV,absVL,cput,gv,sv,dn,reduceCtorEq,reduceIte,Nat.reduceBEq,Nat.reduceAdd,Nat.reduceEqDiff,Nat.reduceLT,Nat.reduceLeDiff,Nat.reduceMul,Nat.reduceSub,BEq.rfl,beq_self_eq_true,Int.reduceToNat]
       repeat' apply And.intro
       all_goals first|refine hK _ ?_|exact ot
       all_goals clear hK K
       refine AWP.ret ?_
       subst hR
       exact es
end N298
def D_zi : DF
 | [x0]=>some (.tup [.agg (y8 ((zi (rdS x0)).1)),.bool ((zi (rdS x0)).2)],false,[wS x0,(rdS x0).length<1099511627776,(rdS x0).length≤1048576])
 | _=>none
theorem y4ab:OkD Tryz.prog 298 D_zi:=by unfold D_zi;exact dk N298.den
end Go.Ab

namespace Go.Ab
open Go Go.Proofs
def yyx (a0:(List Sector)) (a1:(List Sector)) (i1:Nat) (s1:Unit):Except (Bool) (Unit):=
 (bif (!(((a0.getD i1 default).From) == ((a1.getD i1 default).From) && (((a0.getD i1 default).To) == ((a1.getD i1 default).To) && ((a0.getD i1 default).Color) == ((a1.getD i1 default).Color))))then .error false else .ok ())
def zog (a0:(List Sector)) (a1:(List Sector)):Bool:=
 (bif ((a0.length:Int) != (a1.length:Int))then false else(match ye (yyx a0 a1) (a0.length-0) 0 ()with|.error e=>e|.ok s1=>true))
namespace N292
theorem DD:DOk Tryz.prog (Go.Ab.DD []):=yc _
theorem den (a0:(List Sector)) (a1:(List Sector))  : Den Tryz.prog 292 [encL 3 yk a0,encL 3 yk a1] (.bool (zog a0 a1)):=by
 generalize hR:zog a0 a1=r
 unfold zog at hR
 refine di Tryz.func292 Tryz.ntmps292 Tryz.results292 ?_
 intro c hL hc hk
 obtain⟨hL0,hL1,_⟩:=hL
 have hw0:a0.length<9223372036854775808:=Nat.lt_succ_of_le (yf hL0).1
 have hw1:∀ v∈a0,bwSector v:=fun v hv=>yt v ((yf hL0).2 v hv)
 have hw2:a1.length<9223372036854775808:=Nat.lt_succ_of_le (yf hL1).1
 have hw3:∀ v∈a1,bwSector v:=fun v hv=>yt v ((yf hL1).2 v hv)
 clear hL0 hL1
 simp only[pars,Nat.zero_add]
 iterate 2 refine rS ?_
 refine AWP.cond rfl (fun hb => ?_) (fun hb => ?_)
 ·replace hR:=ct hR
  refine rS ?_
  refine AWP.ret ?_
  subst hR
  exact es
 ·replace hR:=cf hR
  refine rS ?_
  refine AWP.block ?_
  generalize hz1:ye (yyx a0 a1) (a0.length-0) 0 ()=z1 at hR
  refine AWP.range (yyx a0 a1) (fun i1 s1=>⟨[(0,encL 3 yk a0),(1,encL 3 yk a1),(5,.int .i64 (i1:Int))],[]⟩) (fun i1 s1=>True) (a0.length) 0 () [] hz1 ot wt sm ?_
  clear hz1
  intro i1 s1 hi1 hW1 hz1
  refine rS ?_
  refine AWP.cond rfl (fun hb => ?_) (fun hb => ?_)
  ·have hlt1:i1<a0.length:=ot
   rw[yj hlt1]at hz1;simp only[yyx]at hz1
   refine rD 8 ?_
   refine AWP.cond rfl (fun hb => ?_) (fun hb => ?_)
   ·simp only[hb,cond_true]at hz1
    refine rS ?_
    refine AWP.ret ?_
    subst hz1
    dsimp only at hR
    subst hR
    exact es
   ·simp only[hb,cond_false]at hz1
    refine rS ?_
    exact⟨_,[],hlt1,wt,hz1,sm⟩
  ·obtain rfl:i1=a0.length:=ot
   rw[yi (Nat.le_refl _)]at hz1;subst hz1;dsimp only at hR
   refine AWP.exit ?_;refine yb ?_
   refine rS ?_
   refine AWP.ret ?_
   subst hR
   exact es
end N292
def D_zog : DF
 | [x0,x1]=>some (.bool (zog (rdL yq x0) (rdL yq x1)),false,[wL 3 yk yq x0,wL 3 yk yq x1])
 | _=>none
theorem yq4:OkD Tryz.prog 292 D_zog:=by unfold D_zog;exact dk N292.den
end Go.Ab

namespace Go.Ab
open Go Go.Proofs
def yix (a0:(List Int)) (a1:(List Int)) (i1:Nat) (s1:Unit):Except (Bool) (Unit):=
 (bif ((a0.getD i1 default) != (a1.getD i1 default))then .error false else .ok ())
def zpg (a0:(List Int)) (a1:(List Int)):Bool:=
 (bif ((a0.length:Int) != (a1.length:Int))then false else(match ye (yix a0 a1) (a0.length-0) 0 ()with|.error e=>e|.ok s1=>true))
namespace N343
theorem DD:DOk Tryz.prog (Go.Ab.DD []):=yc _
theorem den (a0:(List Int)) (a1:(List Int))  : Den Tryz.prog 343 [encL 1 yr a0,encL 1 yr a1] (.bool (zpg a0 a1)):=by
 generalize hR:zpg a0 a1=r
 unfold zpg at hR
 refine di Tryz.func343 Tryz.ntmps343 Tryz.results343 ?_
 intro c hL hc hk
 obtain⟨hL0,hL1,_⟩:=hL
 have hw0:a0.length<9223372036854775808:=Nat.lt_succ_of_le (yf hL0).1
 have hw1:a1.length<9223372036854775808:=Nat.lt_succ_of_le (yf hL1).1
 clear hL0 hL1
 simp only[pars,Nat.zero_add]
 iterate 2 refine rS ?_
 refine AWP.cond rfl (fun hb => ?_) (fun hb => ?_)
 ·replace hR:=ct hR
  refine rS ?_
  refine AWP.ret ?_
  subst hR
  exact es
 ·replace hR:=cf hR
  refine rS ?_
  refine AWP.block ?_
  generalize hz1:ye (yix a0 a1) (a0.length-0) 0 ()=z1 at hR
  refine AWP.range (yix a0 a1) (fun i1 s1=>⟨[(0,encL 1 yr a0),(1,encL 1 yr a1),(5,.int .i64 (i1:Int))],[]⟩) (fun i1 s1=>True) (a0.length) 0 () [] hz1 ot wt sm ?_
  clear hz1
  intro i1 s1 hi1 hW1 hz1
  refine rS ?_
  refine AWP.cond rfl (fun hb => ?_) (fun hb => ?_)
  ·have hlt1:i1<a0.length:=ot
   rw[yj hlt1]at hz1;simp only[yix]at hz1
   refine rD 8 ?_
   refine AWP.cond rfl (fun hb => ?_) (fun hb => ?_)
   ·simp only[hb,cond_true]at hz1
    refine rS ?_
    refine AWP.ret ?_
    subst hz1
    dsimp only at hR
    subst hR
    exact es
   ·simp only[hb,cond_false]at hz1
    refine rS ?_
    exact⟨_,[],hlt1,wt,hz1,sm⟩
  ·obtain rfl:i1=a0.length:=ot
   rw[yi (Nat.le_refl _)]at hz1;subst hz1;dsimp only at hR
   refine AWP.exit ?_;refine yb ?_
   refine rS ?_
   refine AWP.ret ?_
   subst hR
   exact es
end N343
def D_zpg : DF
 | [x0,x1]=>some (.bool (zpg (rdL ywb x0) (rdL ywb x1)),false,[wL 1 yr ywb x0,wL 1 yr ywb x1])
 | _=>none
theorem yb8:OkD Tryz.prog 343 D_zpg:=by unfold D_zpg;exact dk N343.den
end Go.Ab

namespace Go.Ab
open Go Go.Proofs
def zzh (a0:Character) (a1:Character):Bool:=
 (((((a0.Kind == a1.Kind) && (zpg a0.Group a1.Group)) && (a0.Letter == a1.Letter)) && (a0.Colors == a1.Colors)) && (a0.Period == a1.Period))
namespace N291
theorem DD:DOk Tryz.prog (Go.Ab.DD [(343,dP D_zpg)]):=ya yb8.e <| yc _
theorem dn:type_of% (@D_zpg.eq_1):=by and_intros<;>intros<;>rfl
theorem den (a0:Character) (a1:Character)  : Den Tryz.prog 291 [.ep (yg a0),.ep (yg a1)] (.bool (zzh a0 a1)):=by
 generalize hR:zzh a0 a1=r
 unfold zzh at hR
 refine di Tryz.func291 Tryz.ntmps291 Tryz.results291 ?_
 intro c hL hc hk
 obtain⟨hL0,hL1,_⟩:=hL
 have hw0:bwCharacter a0:=yn a0 hL0
 have hw1:bwCharacter a1:=yn a1 hL1
 clear hL0 hL1
 simp only[pars,Nat.zero_add]
 refine rS ?_
 refine rD 53 ?_
 refine AWP.ret ?_
 subst hR
 exact es
end N291
def D_zzh : DF
 | [x0,x1]=>some (.bool (zzh (rdP yd x0) (rdP yd x1)),false,[wP yg yd x0,wP yg yd x1])
 | _=>none
theorem yq6:OkD Tryz.prog 291 D_zzh:=by unfold D_zzh;exact dk N291.den
end Go.Ab

namespace Go.Ab
open Go Go.Proofs
def zxg (a0:Aid) (a1:Aid):Bool:=
 ((((((((a0.Number == a1.Number) && (a0.Name == a1.Name)) && (a0.At.X == a1.At.X && a0.At.Y == a1.At.Y)) && (a0.Height == a1.Height)) && (a0.Mark.Kind == a1.Mark.Kind && (a0.Mark.Colors == a1.Mark.Colors && (a0.Mark.Shape == a1.Mark.Shape && a0.Mark.Topmark == a1.Mark.Topmark)))) && (zzh a0.Light a1.Light)) && (zog a0.Sectors a1.Sectors)) && (a0.Intensity == a1.Intensity))
namespace N224
theorem DD:DOk Tryz.prog (Go.Ab.DD [(291,dP D_zzh),(292,dP D_zog)]):=ya yq6.e <| ya yq4.e <| yc _
theorem dn:type_of% (And.intro @D_zzh.eq_1 <| @D_zog.eq_1):=by and_intros<;>intros<;>rfl
set_option maxHeartbeats 4000000 in
set_option maxRecDepth 20000 in
theorem den (a0:Aid) (a1:Aid)  : Den Tryz.prog 224 [.ep (eAid a0),.ep (eAid a1)] (.bool (zxg a0 a1)):=by
 generalize hR:zxg a0 a1=r
 unfold zxg at hR
 refine di Tryz.func224 Tryz.ntmps224 Tryz.results224 ?_
 intro c hL hc hk
 obtain⟨hL0,hL1,_⟩:=hL
 have hw0:bwAid a0:=yxb a0 hL0
 have hw1:bwAid a1:=yxb a1 hL1
 clear hL0 hL1
 simp only[pars,Nat.zero_add]
 refine rS ?_
 refine rD 84 ?_
 refine AWP.ret ?_
 subst hR
 exact es
end N224
def D_zxg : DF
 | [x0,x1]=>some (.bool (zxg (rdP dAid x0) (rdP dAid x1)),false,[wP eAid dAid x0,wP eAid dAid x1])
 | _=>none
theorem yu7:OkD Tryz.prog 224 D_zxg:=by unfold D_zxg;exact dk N224.den
end Go.Ab

namespace Go.Ab
open Go Go.Proofs
def zyg (a0:Int):Bool:=
 (zg a0 0 99999)
namespace N223
theorem DD:DOk Tryz.prog (Go.Ab.DD [(170,dP D_zg)]):=ya yrd.e <| yc _
theorem dn:type_of% (@D_zg.eq_1):=by and_intros<;>intros<;>rfl
theorem ol:type_of% (@zg.eq_1):=@zg.eq_1
theorem den (a0:Int)  : Den Tryz.prog 223 [.int .i64 a0] (.bool (zyg a0)):=by
 generalize hR:zyg a0=r
 unfold zyg at hR
 refine di Tryz.func223 Tryz.ntmps223 Tryz.results223 ?_
 intro c hL hc hk
 clear hL
 simp only[pars,Nat.zero_add]
 iterate 2 refine rS ?_
 refine AWP.ret ?_
 subst hR
 exact es
end N223
def D_zyg : DF
 | [x0]=>some (.bool (zyg (rdI x0)),false,[wI .i64 x0])
 | _=>none
theorem yw7:OkD Tryz.prog 223 D_zyg:=by unfold D_zyg;exact dk N223.den
end Go.Ab
