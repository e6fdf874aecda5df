/- A part of a proof: walks of functions and lemmas of our own. No conditions. -/
import Derived.Test.YtopoomikfjodkaaGreatDoorQAl
import Derived.Test.YtopoomikfjodkaaGreatDoorQAk
import Derived.Test.YtopoomikfjodkaaGreatDoorQAu
import Derived.Test.YtopoomikfjodkaaGreatDoorQAt
import Derived.Test.YtopoomikfjodkaaGreatDoorQAo
import Derived.Test.YtopoomikfjodkaaGreatDoorQAn
set_option linter.unusedSectionVars false
set_option linter.unusedVariables false
set_option linter.unusedSimpArgs false
set_option maxHeartbeats 1000000
namespace Go.Ab
open Go Go.Proofs
def y6r (a0:(List UInt8)) (s1:List UInt8×List UInt8×Int):Except (Sum ((Character×Bool)) (List UInt8×List UInt8×Int)) (List UInt8×List UInt8×Int):=
 (bif decide (s1.2.2<(s1.1.length:Int))then(bif ((((s1.1.getD ((s1.2.2).toNat) 0).toNat:Int) == 40) && (((s1.1.getD ((IntKind.wrap .i64 ((s1.1.length:Int)-1)).toNat) 0).toNat:Int) == 41))then .error (.inr (s1.1.take ((s1.2.2).toNat),(s1.1.take ((IntKind.wrap .i64 ((s1.1.length:Int)-1)).toNat)).drop ((IntKind.wrap .i64 (s1.2.2+1)).toNat),s1.2.2))else .ok (s1.1,s1.2.1,IntKind.wrap .i64 (s1.2.2+1)))else .error (.inr (s1.1,s1.2.1,s1.2.2)))
def yan (a0:(List UInt8)) (s1:List UInt8×List UInt8×Int) (i2:Nat) (s2:Int):Except ((Character×Bool)) (Int):=
 (bif (((zm ).getD i2 default) == s1.1)then .ok (i2:Int)else .ok s2)
def ycl (a0:(List UInt8)) (s1:List UInt8×List UInt8×Int) (s2:Int) (i3:Nat) (s3:List Int):Except ((Character×Bool)) (List Int):=
 (bif (!((zg ((za s1.2.1 43).getD i3 default)).2))then .error ({ Kind:=s2,Group:=s3,Letter:=[76],Colors:=[],Period:=0:Character },false)else .ok (s3++([(zg ((za s1.2.1 43).getD i3 default)).1]:List Int)))
def yow (a0:(List UInt8)) (s4:List UInt8×List UInt8×Int):Except (Sum ((Character×Bool)) (List UInt8×List UInt8×Int)) (List UInt8×List UInt8×Int):=
 (bif decide (s4.2.2<(s4.1.length:Int))then(bif ((((s4.1.getD ((s4.2.2).toNat) 0).toNat:Int) == 40) && (((s4.1.getD ((IntKind.wrap .i64 ((s4.1.length:Int)-1)).toNat) 0).toNat:Int) == 41))then .error (.inr (s4.1.take ((s4.2.2).toNat),(s4.1.take ((IntKind.wrap .i64 ((s4.1.length:Int)-1)).toNat)).drop ((IntKind.wrap .i64 (s4.2.2+1)).toNat),s4.2.2))else .ok (s4.1,s4.2.1,IntKind.wrap .i64 (s4.2.2+1)))else .error (.inr (s4.1,s4.2.1,s4.2.2)))
def yij (a0:(List UInt8)) (s4:List UInt8×List UInt8×Int) (i5:Nat) (s5:Int):Except ((Character×Bool)) (Int):=
 (bif (((zm ).getD i5 default) == s4.1)then .ok (i5:Int)else .ok s5)
def yil (a0:(List UInt8)) (s4:List UInt8×List UInt8×Int) (s5:Int) (i6:Nat) (s6:List Int):Except ((Character×Bool)) (List Int):=
 (bif (!((zg ((za s4.2.1 43).getD i6 default)).2))then .error ({ Kind:=s5,Group:=s6,Letter:=[],Colors:=[],Period:=0:Character },false)else .ok (s6++([(zg ((za s4.2.1 43).getD i6 default)).1]:List Int)))
def zh (a0:(List UInt8)):(Character×Bool):=
 (bif (decide (4<(a0.length:Int)) && (((a0.take a0.length).drop ((IntKind.wrap .i64 ((a0.length:Int)-4)).toNat)) == [43,76,70,108]))then(match y7 (y6r a0) (((a0.length-(0:Int)).toNat)+1) (a0.take ((IntKind.wrap .i64 ((a0.length:Int)-4)).toNat),[],0)with|.error (.inl e)=>e|.error (.inr s1)=>(match yd (yan a0 s1) (((zm ).length)-1) 1 0 with|.error e=>e|.ok s2=>(bif (s2 == 8)then({ Kind:=s2,Group:=[],Letter:=[76]++s1.2.1,Colors:=[],Period:=0:Character },true)else(bif (s1.2.1 == [])then({ Kind:=s2,Group:=[],Letter:=[76],Colors:=[],Period:=0:Character },decide (0<s2))else(match yd (ycl a0 s1 s2) (((za s1.2.1 43).length)-0) 0 ([]:List Int)with|.error e=>e|.ok s3=>({ Kind:=s2,Group:=s3,Letter:=[76],Colors:=[],Period:=0:Character },decide (0<s2))))))|.ok _=>default)else(match y7 (yow a0) (((a0.length-(0:Int)).toNat)+1) (a0,[],0)with|.error (.inl e)=>e|.error (.inr s4)=>(match yd (yij a0 s4) (((zm ).length)-1) 1 0 with|.error e=>e|.ok s5=>(bif (s5 == 8)then({ Kind:=s5,Group:=[],Letter:=[]++s4.2.1,Colors:=[],Period:=0:Character },true)else(bif (s4.2.1 == [])then({ Kind:=s5,Group:=[],Letter:=[],Colors:=[],Period:=0:Character },decide (0<s5))else(match yd (yil a0 s4 s5) (((za s4.2.1 43).length)-0) 0 ([]:List Int)with|.error e=>e|.ok s6=>({ Kind:=s5,Group:=s6,Letter:=[],Colors:=[],Period:=0:Character },decide (0<s5))))))|.ok _=>default))
namespace N298
theorem DD:DOk Tryz.prog (Go.Ab.DD [(165,dP D_za),(168,dP D_zg),(279,dP D_zm)]):=ya yxh.e <| ya y0m.e <| ya ysx.e <| ye _
theorem dn:type_of% (And.intro @D_za.eq_1 <| And.intro @D_zg.eq_1 <| @D_zm.eq_1):=by and_intros<;>intros<;>rfl
theorem gr {p:Prop} (h:p:=by(grind [y3,yec]);first|done|fail):p:=h
theorem o0 {p:Prop} (h:p:=by(first|(exact yhw _ _ (by omega) (of_decide_eq_true (by assumption)) (by omega) hb)|(refine⟨⟨by omega,by omega⟩,by omega,yec _ _ (by first|omega|(simp only[List.length_drop,List.length_take];omega))⟩)|(have h9:=y3 (List.drop (IntKind.wrap .i64 (s1.2.2+1)).toNat (List.take (IntKind.wrap .i64 ((s1.1.length:Int)-1)).toNat s1.1)) (by simp only[List.length_drop,List.length_take];omega);first|omega|(and_intros<;>omega))|(have h9:=y3 s1.2.1 (by omega);first|omega|(and_intros<;>omega))|(have h9:=y3 (List.drop (IntKind.wrap .i64 (s4.2.2+1)).toNat (List.take (IntKind.wrap .i64 ((s4.1.length:Int)-1)).toNat s4.1)) (by simp only[List.length_drop,List.length_take];omega);first|omega|(and_intros<;>omega))|(have h9:=y3 s4.2.1 (by omega);first|omega|(and_intros<;>omega))|(simp only[List.length_drop,List.length_take];omega)|(and_intros<;>first|omega|(simp only[List.length_drop,List.length_take];omega)));first|done|fail):p:=h
theorem o2 {p:Prop} (h:p:=by(first|(and_intros<;>first|omega|(rw[IntKind.wrap_i64];omega)|(intro i hi;exact yle _ _ i hi)|(intro i hi;rw[yle _ _ i hi];exact y8 _)|(simp only[List.length_append,List.length_singleton];(first|done|fail))|(rw[IntKind.wrap_i64];first|(have h9:=y3 (List.drop (IntKind.wrap .i64 (s1.2.2+1)).toNat (List.take (IntKind.wrap .i64 ((s1.1.length:Int)-1)).toNat s1.1)) (by simp only[List.length_drop,List.length_take];omega);first|omega|(and_intros<;>omega))|(have h9:=y3 s1.2.1 (by omega);first|omega|(and_intros<;>omega))|(have h9:=y3 (List.drop (IntKind.wrap .i64 (s4.2.2+1)).toNat (List.take (IntKind.wrap .i64 ((s4.1.length:Int)-1)).toNat s4.1)) (by simp only[List.length_drop,List.length_take];omega);first|omega|(and_intros<;>omega))|(have h9:=y3 s4.2.1 (by omega);first|omega|(and_intros<;>omega)))|(simp;(first|done|fail))));first|done|fail):p:=h
set_option maxHeartbeats 2000000 in
set_option maxRecDepth 20000 in
theorem den (a0:(List UInt8)) (hb0:a0.length<1099511627776) (hp0:a0.length≤1048576):Den Tryz.prog 298 [.str a0] (.tup [.agg (ylb ((zh a0).1)),.bool ((zh a0).2)]):=by
 generalize hR:zh a0=r
 unfold zh at hR
 refine di Tryz.func298 Tryz.ntmps298 Tryz.results298 ?_
 intro c hL hc hk
 obtain⟨hL0,_⟩:=hL
 have hw0:a0.length<9223372036854775808:=Nat.lt_succ_of_le hL0
 clear hL0
 simp only[pars,Nat.zero_add]
 have hk8:zm.length=9:=rfl
 iterate 3 refine rS ?_
 refine AWP.cond rfl (fun hb => ?_) (fun hb => ?_)
 ·replace hR:=ct hR
  iterate 4 refine rS ?_
  refine AWP.block ?_
  generalize hz1:y7 (y6r a0) (((a0.length-(0:Int)).toNat)+1) (a0.take ((IntKind.wrap .i64 ((a0.length:Int)-4)).toNat),[],0)=z1 at hR
  refine AWP.whileW (y6r a0) (fun s1=>⟨[(0,.str s1.1),(2,.ptr 0 0),(4,.ptr 1 0),(5,.str s1.2.1),(6,.int .i64 s1.2.2)],[.box [.int .i64 0,.nils,.str [],.str [],.int .i64 0],.box [.int .i64 0,.nils,.str [76],.str [],.int .i64 0]]⟩) (fun s1=>0≤s1.2.2∧s1.2.2≤s1.1.length∧s1.1.length≤a0.length∧s1.2.1.length≤1048576) (fun s1=>(a0.length-s1.2.2).toNat) (((a0.length-(0:Int)).toNat)+1) (a0.take ((IntKind.wrap .i64 ((a0.length:Int)-4)).toNat),[],0) [0,1] hz1 m0 wt sm ?_
  clear hz1
  intro s1 k1 hW1 hm1 hz1
  simp only[y6r]at hz1
  refine rS ?_
  refine AWP.cond rfl (fun hb => ?_) (fun hb => ?_)
  ·simp only[hb,cond_true]at hz1
   refine rS ?_
   refine AWP.cond rfl (fun hb => ?_) (fun hb => ?_)
   ·simp only[hb,cond_true]at hz1
    iterate 2 refine rS ?_
    refine AWP.exit ?_
    refine y2e rfl ?_
    refine yb ?_
    subst hz1;dsimp only at hR
    iterate 2 refine rS ?_
    refine AWP.block ?_
    generalize hz2:yd (yan a0 (s1.1.take ((s1.2.2).toNat),(s1.1.take ((IntKind.wrap .i64 ((s1.1.length:Int)-1)).toNat)).drop ((IntKind.wrap .i64 (s1.2.2+1)).toNat),s1.2.2)) (((zm ).length)-1) 1 0=z2 at hR
    refine AWP.range (yan a0 (s1.1.take ((s1.2.2).toNat),(s1.1.take ((IntKind.wrap .i64 ((s1.1.length:Int)-1)).toNat)).drop ((IntKind.wrap .i64 (s1.2.2+1)).toNat),s1.2.2)) (fun i2 s2=>⟨[(0,.str (s1.1.take ((s1.2.2).toNat))),(2,.ptr 0 0),(4,.ptr 1 0),(5,.str ((s1.1.take ((IntKind.wrap .i64 ((s1.1.length:Int)-1)).toNat)).drop ((IntKind.wrap .i64 (s1.2.2+1)).toNat))),(7,.ref 2 1 0 ((zm ).length)),(8,.int .i64 (i2:Int))],[.box [.int .i64 0,.nils,.str [],.str [],.int .i64 0],.box [.int .i64 s2,.nils,.str [76],.str [],.int .i64 0],.arr 9 1 (zm ).length (fun j=>eS ((zm ).getD j default))]⟩) (fun i2 s2=>1≤i2) (((zm ).length)) 1 0 [0,1,2] hz2 ot wt sm ?_
    clear hz2
    intro i2 s2 hi2 hW2 hz2
    refine rS ?_
    refine AWP.cond rfl (fun hb => ?_) (fun hb => ?_)
    ·have hlt2:i2<((zm ).length):=ot
     rw[yh hlt2]at hz2;simp only[yan]at hz2
     refine rS ?_
     refine AWP.cond rfl (fun hb => ?_) (fun hb => ?_)
     ·simp only[hb,cond_true]at hz2
      iterate 2 refine rS ?_
      exact⟨_,[0,1,2],hlt2,wt,hz2,sm⟩
     ·simp only[hb,cond_false]at hz2
      refine rS ?_
      exact⟨_,[0,1,2],hlt2,wt,hz2,sm⟩
    ·obtain rfl:i2=((zm ).length):=ot
     rw[yg (Nat.le_refl _)]at hz2;subst hz2;dsimp only at hR
     refine AWP.exit ?_;refine yb ?_
     refine rS ?_
     refine AWP.cond rfl (fun hb => ?_) (fun hb => ?_)
     ·replace hR:=ct hR
      iterate 2 refine rS ?_
      refine AWP.ret ?_
      subst hR
      exact es
     ·replace hR:=cf hR
      refine rS ?_
      refine AWP.cond rfl (fun hb => ?_) (fun hb => ?_)
      ·replace hR:=ct hR
       refine AWP.seq ?_
       refine AWP.regP mixed G_ok DD hc 5 [0,1,2,3] (.alt 4 [] [1,2,3] .leaf .stop) (by kernel_rfl) (by kernel_rfl) (by kernel_rfl) (fun K hK => ?_);simp only[yeg,runN,runP,ywb,nthO,ea,absV,absVL,cput,gv,sv,dn,reduceCtorEq,reduceIte,Nat.reduceBEq,Nat.reduceAdd,Nat.reduceEqDiff,Nat.reduceLT,Nat.reduceLeDiff,Nat.reduceMul,Nat.reduceSub,BEq.rfl,beq_self_eq_true,Int.reduceToNat]
       repeat' apply And.intro
       all_goals first|refine hK _ ?_|exact ot
       all_goals clear hK K
       refine AWP.ret ?_
       subst hR
       exact es
      ·replace hR:=cf hR
       iterate 2 refine rS ?_
       refine AWP.block ?_
       refine AWP.nilB 1 1 2 1 (fun _=>[]) rfl rfl ?_;try simp only[ea,absV,absVL,cput,gv,sv,dn,reduceCtorEq,reduceIte,Nat.reduceBEq,Nat.reduceAdd,Nat.reduceEqDiff,Nat.reduceLT,Nat.reduceLeDiff,Nat.reduceMul,Nat.reduceSub,BEq.rfl,beq_self_eq_true,Int.reduceToNat]
       generalize hz3:yd (ycl a0 (s1.1.take ((s1.2.2).toNat),(s1.1.take ((IntKind.wrap .i64 ((s1.1.length:Int)-1)).toNat)).drop ((IntKind.wrap .i64 (s1.2.2+1)).toNat),s1.2.2) s2) (((za ((s1.1.take ((IntKind.wrap .i64 ((s1.1.length:Int)-1)).toNat)).drop ((IntKind.wrap .i64 (s1.2.2+1)).toNat)) 43).length)-0) 0 ([]:List Int)=z3 at hR
       refine AWP.range (ycl a0 (s1.1.take ((s1.2.2).toNat),(s1.1.take ((IntKind.wrap .i64 ((s1.1.length:Int)-1)).toNat)).drop ((IntKind.wrap .i64 (s1.2.2+1)).toNat),s1.2.2) s2) (fun i3 s3=>⟨[(2,.ptr 0 0),(4,.ptr 1 0),(9,.ref 3 1 0 ((za ((s1.1.take ((IntKind.wrap .i64 ((s1.1.length:Int)-1)).toNat)).drop ((IntKind.wrap .i64 (s1.2.2+1)).toNat)) 43).length)),(10,.int .i64 (i3:Int))],[.box [.int .i64 0,.nils,.str [],.str [],.int .i64 0],.box [.int .i64 s2,.ref 2 1 0 s3.length,.str [76],.str [],.int .i64 0],.arr 2 1 s3.length (fun j=>yt (s3.getD j default)),.arr 9 1 (za ((s1.1.take ((IntKind.wrap .i64 ((s1.1.length:Int)-1)).toNat)).drop ((IntKind.wrap .i64 (s1.2.2+1)).toNat)) 43).length (fun j=>eS ((za ((s1.1.take ((IntKind.wrap .i64 ((s1.1.length:Int)-1)).toNat)).drop ((IntKind.wrap .i64 (s1.2.2+1)).toNat)) 43).getD j default))]⟩) (fun i3 s3=>s3.length≤([]:List Int).length+1 * i3∧s3.length≤i3) (((za ((s1.1.take ((IntKind.wrap .i64 ((s1.1.length:Int)-1)).toNat)).drop ((IntKind.wrap .i64 (s1.2.2+1)).toNat)) 43).length)) 0 ([]:List Int) [0,1,4,3] hz3 ot wt sm ?_
       clear hz3
       intro i3 s3 hi3 hW3 hz3
       refine rS ?_
       refine AWP.cond rfl (fun hb => ?_) (fun hb => ?_)
       ·have hlt3:i3<((za ((s1.1.take ((IntKind.wrap .i64 ((s1.1.length:Int)-1)).toNat)).drop ((IntKind.wrap .i64 (s1.2.2+1)).toNat)) 43).length):=ot
        rw[yh hlt3]at hz3;simp only[ycl]at hz3
        iterate 2 refine rS ?_
        refine AWP.cond rfl (fun hb => ?_) (fun hb => ?_)
        ·simp only[hb,cond_true]at hz3
         refine rS ?_
         refine AWP.ret ?_
         subst hz3
         dsimp only at hR
         subst hR
         exact es
        ·simp only[hb,cond_false]at hz3
         iterate 2 refine rS ?_
         exact⟨_,[0,1,5,3],hlt3,by(simp only[List.length_append,List.length_singleton];omega),hz3,sm⟩
       ·obtain rfl:i3=((za ((s1.1.take ((IntKind.wrap .i64 ((s1.1.length:Int)-1)).toNat)).drop ((IntKind.wrap .i64 (s1.2.2+1)).toNat)) 43).length):=ot
        rw[yg (Nat.le_refl _)]at hz3;subst hz3;dsimp only at hR
        refine AWP.exit ?_;refine yb ?_
        refine AWP.seq ?_
        refine AWP.regP mixed G_ok DD hc 5 [0,1,2,3] (.alt 4 [] [1,2,3] .leaf .stop) (by kernel_rfl) (by kernel_rfl) (by kernel_rfl) (fun K hK => ?_);simp only[yeg,runN,runP,ywb,nthO,ea,absV,absVL,cput,gv,sv,dn,reduceCtorEq,reduceIte,Nat.reduceBEq,Nat.reduceAdd,Nat.reduceEqDiff,Nat.reduceLT,Nat.reduceLeDiff,Nat.reduceMul,Nat.reduceSub,BEq.rfl,beq_self_eq_true,Int.reduceToNat]
        repeat' apply And.intro
        all_goals first|refine hK _ ?_|exact ot
        all_goals clear hK K
        refine AWP.ret ?_
        subst hR
        exact es
   ·simp only[hb,cond_false]at hz1
    refine rS ?_
    exact⟨_,[0,1],ms,wt,hz1,sm⟩
  ·simp only[hb,cond_false]at hz1
   refine AWP.exit ?_
   refine yb ?_
   subst hz1;dsimp only at hR
   iterate 2 refine rS ?_
   refine AWP.block ?_
   generalize hz2:yd (yan a0 (s1.1,s1.2.1,s1.2.2)) (((zm ).length)-1) 1 0=z2 at hR
   refine AWP.range (yan a0 (s1.1,s1.2.1,s1.2.2)) (fun i2 s2=>⟨[(0,.str s1.1),(2,.ptr 0 0),(4,.ptr 1 0),(5,.str s1.2.1),(7,.ref 2 1 0 ((zm ).length)),(8,.int .i64 (i2:Int))],[.box [.int .i64 0,.nils,.str [],.str [],.int .i64 0],.box [.int .i64 s2,.nils,.str [76],.str [],.int .i64 0],.arr 9 1 (zm ).length (fun j=>eS ((zm ).getD j default))]⟩) (fun i2 s2=>1≤i2) (((zm ).length)) 1 0 [0,1,2] hz2 ot wt sm ?_
   clear hz2
   intro i2 s2 hi2 hW2 hz2
   refine rS ?_
   refine AWP.cond rfl (fun hb => ?_) (fun hb => ?_)
   ·have hlt2:i2<((zm ).length):=ot
    rw[yh hlt2]at hz2;simp only[yan]at hz2
    refine rS ?_
    refine AWP.cond rfl (fun hb => ?_) (fun hb => ?_)
    ·simp only[hb,cond_true]at hz2
     iterate 2 refine rS ?_
     exact⟨_,[0,1,2],hlt2,wt,hz2,sm⟩
    ·simp only[hb,cond_false]at hz2
     refine rS ?_
     exact⟨_,[0,1,2],hlt2,wt,hz2,sm⟩
   ·obtain rfl:i2=((zm ).length):=ot
    rw[yg (Nat.le_refl _)]at hz2;subst hz2;dsimp only at hR
    refine AWP.exit ?_;refine yb ?_
    refine rS ?_
    refine AWP.cond rfl (fun hb => ?_) (fun hb => ?_)
    ·replace hR:=ct hR
     iterate 2 refine rS ?_
     refine AWP.ret ?_
     subst hR
     exact es
    ·replace hR:=cf hR
     refine rS ?_
     refine AWP.cond rfl (fun hb => ?_) (fun hb => ?_)
     ·replace hR:=ct hR
      refine AWP.seq ?_
      refine AWP.regP mixed G_ok DD hc 5 [0,1,2,3] (.alt 4 [] [1,2,3] .leaf .stop) (by kernel_rfl) (by kernel_rfl) (by kernel_rfl) (fun K hK => ?_);simp only[yeg,runN,runP,ywb,nthO,ea,absV,absVL,cput,gv,sv,dn,reduceCtorEq,reduceIte,Nat.reduceBEq,Nat.reduceAdd,Nat.reduceEqDiff,Nat.reduceLT,Nat.reduceLeDiff,Nat.reduceMul,Nat.reduceSub,BEq.rfl,beq_self_eq_true,Int.reduceToNat]
      repeat' apply And.intro
      all_goals first|refine hK _ ?_|exact ot
      all_goals clear hK K
      refine AWP.ret ?_
      subst hR
      exact es
     ·replace hR:=cf hR
      iterate 2 refine rS ?_
      refine AWP.block ?_
      refine AWP.nilB 1 1 2 1 (fun _=>[]) rfl rfl ?_;try simp only[ea,absV,absVL,cput,gv,sv,dn,reduceCtorEq,reduceIte,Nat.reduceBEq,Nat.reduceAdd,Nat.reduceEqDiff,Nat.reduceLT,Nat.reduceLeDiff,Nat.reduceMul,Nat.reduceSub,BEq.rfl,beq_self_eq_true,Int.reduceToNat]
      generalize hz3:yd (ycl a0 (s1.1,s1.2.1,s1.2.2) s2) (((za s1.2.1 43).length)-0) 0 ([]:List Int)=z3 at hR
      refine AWP.range (ycl a0 (s1.1,s1.2.1,s1.2.2) s2) (fun i3 s3=>⟨[(2,.ptr 0 0),(4,.ptr 1 0),(9,.ref 3 1 0 ((za s1.2.1 43).length)),(10,.int .i64 (i3:Int))],[.box [.int .i64 0,.nils,.str [],.str [],.int .i64 0],.box [.int .i64 s2,.ref 2 1 0 s3.length,.str [76],.str [],.int .i64 0],.arr 2 1 s3.length (fun j=>yt (s3.getD j default)),.arr 9 1 (za s1.2.1 43).length (fun j=>eS ((za s1.2.1 43).getD j default))]⟩) (fun i3 s3=>s3.length≤([]:List Int).length+1 * i3∧s3.length≤i3) (((za s1.2.1 43).length)) 0 ([]:List Int) [0,1,4,3] hz3 ot wt sm ?_
      clear hz3
      intro i3 s3 hi3 hW3 hz3
      refine rS ?_
      refine AWP.cond rfl (fun hb => ?_) (fun hb => ?_)
      ·have hlt3:i3<((za s1.2.1 43).length):=ot
       rw[yh hlt3]at hz3;simp only[ycl]at hz3
       iterate 2 refine rS ?_
       refine AWP.cond rfl (fun hb => ?_) (fun hb => ?_)
       ·simp only[hb,cond_true]at hz3
        refine rS ?_
        refine AWP.ret ?_
        subst hz3
        dsimp only at hR
        subst hR
        exact es
       ·simp only[hb,cond_false]at hz3
        iterate 2 refine rS ?_
        exact⟨_,[0,1,5,3],hlt3,by(simp only[List.length_append,List.length_singleton];omega),hz3,sm⟩
      ·obtain rfl:i3=((za s1.2.1 43).length):=ot
       rw[yg (Nat.le_refl _)]at hz3;subst hz3;dsimp only at hR
       refine AWP.exit ?_;refine yb ?_
       refine AWP.seq ?_
       refine AWP.regP mixed G_ok DD hc 5 [0,1,2,3] (.alt 4 [] [1,2,3] .leaf .stop) (by kernel_rfl) (by kernel_rfl) (by kernel_rfl) (fun K hK => ?_);simp only[yeg,runN,runP,ywb,nthO,ea,absV,absVL,cput,gv,sv,dn,reduceCtorEq,reduceIte,Nat.reduceBEq,Nat.reduceAdd,Nat.reduceEqDiff,Nat.reduceLT,Nat.reduceLeDiff,Nat.reduceMul,Nat.reduceSub,BEq.rfl,beq_self_eq_true,Int.reduceToNat]
       repeat' apply And.intro
       all_goals first|refine hK _ ?_|exact ot
       all_goals clear hK K
       refine AWP.ret ?_
       subst hR
       exact es
 ·replace hR:=cf hR
  iterate 2 refine rS ?_
  refine AWP.block ?_
  generalize hz4:y7 (yow a0) (((a0.length-(0:Int)).toNat)+1) (a0,[],0)=z4 at hR
  refine AWP.whileW (yow a0) (fun s4=>⟨[(0,.str s4.1),(2,.ptr 0 0),(4,.ptr 1 0),(5,.str s4.2.1),(6,.int .i64 s4.2.2)],[.box [.int .i64 0,.nils,.str [],.str [],.int .i64 0],.box [.int .i64 0,.nils,.str [],.str [],.int .i64 0]]⟩) (fun s4=>0≤s4.2.2∧s4.2.2≤s4.1.length∧s4.1.length≤a0.length∧s4.2.1.length≤1048576) (fun s4=>(a0.length-s4.2.2).toNat) (((a0.length-(0:Int)).toNat)+1) (a0,[],0) [0,1] hz4 m0 wt sm ?_
  clear hz4
  intro s4 k4 hW4 hm4 hz4
  simp only[yow]at hz4
  refine rS ?_
  refine AWP.cond rfl (fun hb => ?_) (fun hb => ?_)
  ·simp only[hb,cond_true]at hz4
   refine rS ?_
   refine AWP.cond rfl (fun hb => ?_) (fun hb => ?_)
   ·simp only[hb,cond_true]at hz4
    iterate 2 refine rS ?_
    refine AWP.exit ?_
    refine y2e rfl ?_
    refine yb ?_
    subst hz4;dsimp only at hR
    iterate 2 refine rS ?_
    refine AWP.block ?_
    generalize hz5:yd (yij a0 (s4.1.take ((s4.2.2).toNat),(s4.1.take ((IntKind.wrap .i64 ((s4.1.length:Int)-1)).toNat)).drop ((IntKind.wrap .i64 (s4.2.2+1)).toNat),s4.2.2)) (((zm ).length)-1) 1 0=z5 at hR
    refine AWP.range (yij a0 (s4.1.take ((s4.2.2).toNat),(s4.1.take ((IntKind.wrap .i64 ((s4.1.length:Int)-1)).toNat)).drop ((IntKind.wrap .i64 (s4.2.2+1)).toNat),s4.2.2)) (fun i5 s5=>⟨[(0,.str (s4.1.take ((s4.2.2).toNat))),(2,.ptr 0 0),(4,.ptr 1 0),(5,.str ((s4.1.take ((IntKind.wrap .i64 ((s4.1.length:Int)-1)).toNat)).drop ((IntKind.wrap .i64 (s4.2.2+1)).toNat))),(7,.ref 2 1 0 ((zm ).length)),(8,.int .i64 (i5:Int))],[.box [.int .i64 0,.nils,.str [],.str [],.int .i64 0],.box [.int .i64 s5,.nils,.str [],.str [],.int .i64 0],.arr 9 1 (zm ).length (fun j=>eS ((zm ).getD j default))]⟩) (fun i5 s5=>1≤i5) (((zm ).length)) 1 0 [0,1,2] hz5 ot wt sm ?_
    clear hz5
    intro i5 s5 hi5 hW5 hz5
    refine rS ?_
    refine AWP.cond rfl (fun hb => ?_) (fun hb => ?_)
    ·have hlt5:i5<((zm ).length):=ot
     rw[yh hlt5]at hz5;simp only[yij]at hz5
     refine rS ?_
     refine AWP.cond rfl (fun hb => ?_) (fun hb => ?_)
     ·simp only[hb,cond_true]at hz5
      iterate 2 refine rS ?_
      exact⟨_,[0,1,2],hlt5,wt,hz5,sm⟩
     ·simp only[hb,cond_false]at hz5
      refine rS ?_
      exact⟨_,[0,1,2],hlt5,wt,hz5,sm⟩
    ·obtain rfl:i5=((zm ).length):=ot
     rw[yg (Nat.le_refl _)]at hz5;subst hz5;dsimp only at hR
     refine AWP.exit ?_;refine yb ?_
     refine rS ?_
     refine AWP.cond rfl (fun hb => ?_) (fun hb => ?_)
     ·replace hR:=ct hR
      iterate 2 refine rS ?_
      refine AWP.ret ?_
      subst hR
      exact es
     ·replace hR:=cf hR
      refine rS ?_
      refine AWP.cond rfl (fun hb => ?_) (fun hb => ?_)
      ·replace hR:=ct hR
       refine AWP.seq ?_
       refine AWP.regP mixed G_ok DD hc 5 [0,1,2,3] (.alt 4 [] [1,2,3] .leaf .stop) (by kernel_rfl) (by kernel_rfl) (by kernel_rfl) (fun K hK => ?_);simp only[yeg,runN,runP,ywb,nthO,ea,absV,absVL,cput,gv,sv,dn,reduceCtorEq,reduceIte,Nat.reduceBEq,Nat.reduceAdd,Nat.reduceEqDiff,Nat.reduceLT,Nat.reduceLeDiff,Nat.reduceMul,Nat.reduceSub,BEq.rfl,beq_self_eq_true,Int.reduceToNat]
       repeat' apply And.intro
       all_goals first|refine hK _ ?_|exact ot
       all_goals clear hK K
       refine AWP.ret ?_
       subst hR
       exact es
      ·replace hR:=cf hR
       iterate 2 refine rS ?_
       refine AWP.block ?_
       refine AWP.nilB 1 1 2 1 (fun _=>[]) rfl rfl ?_;try simp only[ea,absV,absVL,cput,gv,sv,dn,reduceCtorEq,reduceIte,Nat.reduceBEq,Nat.reduceAdd,Nat.reduceEqDiff,Nat.reduceLT,Nat.reduceLeDiff,Nat.reduceMul,Nat.reduceSub,BEq.rfl,beq_self_eq_true,Int.reduceToNat]
       generalize hz6:yd (yil a0 (s4.1.take ((s4.2.2).toNat),(s4.1.take ((IntKind.wrap .i64 ((s4.1.length:Int)-1)).toNat)).drop ((IntKind.wrap .i64 (s4.2.2+1)).toNat),s4.2.2) s5) (((za ((s4.1.take ((IntKind.wrap .i64 ((s4.1.length:Int)-1)).toNat)).drop ((IntKind.wrap .i64 (s4.2.2+1)).toNat)) 43).length)-0) 0 ([]:List Int)=z6 at hR
       refine AWP.range (yil a0 (s4.1.take ((s4.2.2).toNat),(s4.1.take ((IntKind.wrap .i64 ((s4.1.length:Int)-1)).toNat)).drop ((IntKind.wrap .i64 (s4.2.2+1)).toNat),s4.2.2) s5) (fun i6 s6=>⟨[(2,.ptr 0 0),(4,.ptr 1 0),(9,.ref 3 1 0 ((za ((s4.1.take ((IntKind.wrap .i64 ((s4.1.length:Int)-1)).toNat)).drop ((IntKind.wrap .i64 (s4.2.2+1)).toNat)) 43).length)),(10,.int .i64 (i6:Int))],[.box [.int .i64 0,.nils,.str [],.str [],.int .i64 0],.box [.int .i64 s5,.ref 2 1 0 s6.length,.str [],.str [],.int .i64 0],.arr 2 1 s6.length (fun j=>yt (s6.getD j default)),.arr 9 1 (za ((s4.1.take ((IntKind.wrap .i64 ((s4.1.length:Int)-1)).toNat)).drop ((IntKind.wrap .i64 (s4.2.2+1)).toNat)) 43).length (fun j=>eS ((za ((s4.1.take ((IntKind.wrap .i64 ((s4.1.length:Int)-1)).toNat)).drop ((IntKind.wrap .i64 (s4.2.2+1)).toNat)) 43).getD j default))]⟩) (fun i6 s6=>s6.length≤([]:List Int).length+1 * i6∧s6.length≤i6) (((za ((s4.1.take ((IntKind.wrap .i64 ((s4.1.length:Int)-1)).toNat)).drop ((IntKind.wrap .i64 (s4.2.2+1)).toNat)) 43).length)) 0 ([]:List Int) [0,1,4,3] hz6 ot wt sm ?_
       clear hz6
       intro i6 s6 hi6 hW6 hz6
       refine rS ?_
       refine AWP.cond rfl (fun hb => ?_) (fun hb => ?_)
       ·have hlt6:i6<((za ((s4.1.take ((IntKind.wrap .i64 ((s4.1.length:Int)-1)).toNat)).drop ((IntKind.wrap .i64 (s4.2.2+1)).toNat)) 43).length):=ot
        rw[yh hlt6]at hz6;simp only[yil]at hz6
        iterate 2 refine rS ?_
        refine AWP.cond rfl (fun hb => ?_) (fun hb => ?_)
        ·simp only[hb,cond_true]at hz6
         refine rS ?_
         refine AWP.ret ?_
         subst hz6
         dsimp only at hR
         subst hR
         exact es
        ·simp only[hb,cond_false]at hz6
         iterate 2 refine rS ?_
         exact⟨_,[0,1,5,3],hlt6,by(simp only[List.length_append,List.length_singleton];omega),hz6,sm⟩
       ·obtain rfl:i6=((za ((s4.1.take ((IntKind.wrap .i64 ((s4.1.length:Int)-1)).toNat)).drop ((IntKind.wrap .i64 (s4.2.2+1)).toNat)) 43).length):=ot
        rw[yg (Nat.le_refl _)]at hz6;subst hz6;dsimp only at hR
        refine AWP.exit ?_;refine yb ?_
        refine AWP.seq ?_
        refine AWP.regP mixed G_ok DD hc 5 [0,1,2,3] (.alt 4 [] [1,2,3] .leaf .stop) (by kernel_rfl) (by kernel_rfl) (by kernel_rfl) (fun K hK => ?_);simp only[yeg,runN,runP,ywb,nthO,ea,absV,absVL,cput,gv,sv,dn,reduceCtorEq,reduceIte,Nat.reduceBEq,Nat.reduceAdd,Nat.reduceEqDiff,Nat.reduceLT,Nat.reduceLeDiff,Nat.reduceMul,Nat.reduceSub,BEq.rfl,beq_self_eq_true,Int.reduceToNat]
        repeat' apply And.intro
        all_goals first|refine hK _ ?_|exact ot
        all_goals clear hK K
        refine AWP.ret ?_
        subst hR
        exact es
   ·simp only[hb,cond_false]at hz4
    refine rS ?_
    exact⟨_,[0,1],ms,wt,hz4,sm⟩
  ·simp only[hb,cond_false]at hz4
   refine AWP.exit ?_
   refine yb ?_
   subst hz4;dsimp only at hR
   iterate 2 refine rS ?_
   refine AWP.block ?_
   generalize hz5:yd (yij a0 (s4.1,s4.2.1,s4.2.2)) (((zm ).length)-1) 1 0=z5 at hR
   refine AWP.range (yij a0 (s4.1,s4.2.1,s4.2.2)) (fun i5 s5=>⟨[(0,.str s4.1),(2,.ptr 0 0),(4,.ptr 1 0),(5,.str s4.2.1),(7,.ref 2 1 0 ((zm ).length)),(8,.int .i64 (i5:Int))],[.box [.int .i64 0,.nils,.str [],.str [],.int .i64 0],.box [.int .i64 s5,.nils,.str [],.str [],.int .i64 0],.arr 9 1 (zm ).length (fun j=>eS ((zm ).getD j default))]⟩) (fun i5 s5=>1≤i5) (((zm ).length)) 1 0 [0,1,2] hz5 ot wt sm ?_
   clear hz5
   intro i5 s5 hi5 hW5 hz5
   refine rS ?_
   refine AWP.cond rfl (fun hb => ?_) (fun hb => ?_)
   ·have hlt5:i5<((zm ).length):=ot
    rw[yh hlt5]at hz5;simp only[yij]at hz5
    refine rS ?_
    refine AWP.cond rfl (fun hb => ?_) (fun hb => ?_)
    ·simp only[hb,cond_true]at hz5
     iterate 2 refine rS ?_
     exact⟨_,[0,1,2],hlt5,wt,hz5,sm⟩
    ·simp only[hb,cond_false]at hz5
     refine rS ?_
     exact⟨_,[0,1,2],hlt5,wt,hz5,sm⟩
   ·obtain rfl:i5=((zm ).length):=ot
    rw[yg (Nat.le_refl _)]at hz5;subst hz5;dsimp only at hR
    refine AWP.exit ?_;refine yb ?_
    refine rS ?_
    refine AWP.cond rfl (fun hb => ?_) (fun hb => ?_)
    ·replace hR:=ct hR
     iterate 2 refine rS ?_
     refine AWP.ret ?_
     subst hR
     exact es
    ·replace hR:=cf hR
     refine rS ?_
     refine AWP.cond rfl (fun hb => ?_) (fun hb => ?_)
     ·replace hR:=ct hR
      refine AWP.seq ?_
      refine AWP.regP mixed G_ok DD hc 5 [0,1,2,3] (.alt 4 [] [1,2,3] .leaf .stop) (by kernel_rfl) (by kernel_rfl) (by kernel_rfl) (fun K hK => ?_);simp only[yeg,runN,runP,ywb,nthO,ea,absV,absVL,cput,gv,sv,dn,reduceCtorEq,reduceIte,Nat.reduceBEq,Nat.reduceAdd,Nat.reduceEqDiff,Nat.reduceLT,Nat.reduceLeDiff,Nat.reduceMul,Nat.reduceSub,BEq.rfl,beq_self_eq_true,Int.reduceToNat]
      repeat' apply And.intro
      all_goals first|refine hK _ ?_|exact ot
      all_goals clear hK K
      refine AWP.ret ?_
      subst hR
      exact es
     ·replace hR:=cf hR
      iterate 2 refine rS ?_
      refine AWP.block ?_
      refine AWP.nilB 1 1 2 1 (fun _=>[]) rfl rfl ?_;try simp only[ea,absV,absVL,cput,gv,sv,dn,reduceCtorEq,reduceIte,Nat.reduceBEq,Nat.reduceAdd,Nat.reduceEqDiff,Nat.reduceLT,Nat.reduceLeDiff,Nat.reduceMul,Nat.reduceSub,BEq.rfl,beq_self_eq_true,Int.reduceToNat]
      generalize hz6:yd (yil a0 (s4.1,s4.2.1,s4.2.2) s5) (((za s4.2.1 43).length)-0) 0 ([]:List Int)=z6 at hR
      refine AWP.range (yil a0 (s4.1,s4.2.1,s4.2.2) s5) (fun i6 s6=>⟨[(2,.ptr 0 0),(4,.ptr 1 0),(9,.ref 3 1 0 ((za s4.2.1 43).length)),(10,.int .i64 (i6:Int))],[.box [.int .i64 0,.nils,.str [],.str [],.int .i64 0],.box [.int .i64 s5,.ref 2 1 0 s6.length,.str [],.str [],.int .i64 0],.arr 2 1 s6.length (fun j=>yt (s6.getD j default)),.arr 9 1 (za s4.2.1 43).length (fun j=>eS ((za s4.2.1 43).getD j default))]⟩) (fun i6 s6=>s6.length≤([]:List Int).length+1 * i6∧s6.length≤i6) (((za s4.2.1 43).length)) 0 ([]:List Int) [0,1,4,3] hz6 ot wt sm ?_
      clear hz6
      intro i6 s6 hi6 hW6 hz6
      refine rS ?_
      refine AWP.cond rfl (fun hb => ?_) (fun hb => ?_)
      ·have hlt6:i6<((za s4.2.1 43).length):=ot
       rw[yh hlt6]at hz6;simp only[yil]at hz6
       iterate 2 refine rS ?_
       refine AWP.cond rfl (fun hb => ?_) (fun hb => ?_)
       ·simp only[hb,cond_true]at hz6
        refine rS ?_
        refine AWP.ret ?_
        subst hz6
        dsimp only at hR
        subst hR
        exact es
       ·simp only[hb,cond_false]at hz6
        iterate 2 refine rS ?_
        exact⟨_,[0,1,5,3],hlt6,by(simp only[List.length_append,List.length_singleton];omega),hz6,sm⟩
      ·obtain rfl:i6=((za s4.2.1 43).length):=ot
       rw[yg (Nat.le_refl _)]at hz6;subst hz6;dsimp only at hR
       refine AWP.exit ?_;refine yb ?_
       refine AWP.seq ?_
       refine AWP.regP mixed G_ok DD hc 5 [0,1,2,3] (.alt 4 [] [1,2,3] .leaf .stop) (by kernel_rfl) (by kernel_rfl) (by kernel_rfl) (fun K hK => ?_);simp only[yeg,runN,runP,ywb,nthO,ea,absV,absVL,cput,gv,sv,dn,reduceCtorEq,reduceIte,Nat.reduceBEq,Nat.reduceAdd,Nat.reduceEqDiff,Nat.reduceLT,Nat.reduceLeDiff,Nat.reduceMul,Nat.reduceSub,BEq.rfl,beq_self_eq_true,Int.reduceToNat]
       repeat' apply And.intro
       all_goals first|refine hK _ ?_|exact ot
       all_goals clear hK K
       refine AWP.ret ?_
       subst hR
       exact es
end N298
def D_zh : DF
 | [x0]=>some (.tup [.agg (ylb ((zh (rdS x0)).1)),.bool ((zh (rdS x0)).2)],false,[wS x0,(rdS x0).length<1099511627776,(rdS x0).length≤1048576])
 | _=>none
theorem y05:OkD Tryz.prog 298 D_zh:=by unfold D_zh;exact dk N298.den
end Go.Ab

namespace Go.Ab
open Go Go.Proofs
def yim (a0:(List UInt8)) (i1:Nat) (s1:Int):Except (Int) (Int):=
 (bif (decide (((a0.getD i1 0).toNat:Int)<48) || decide (57<((a0.getD i1 0).toNat:Int)))then .error 0 else .ok (IntKind.wrap .i64 ((IntKind.wrap .i64 (10 * s1))+(IntKind.wrap .i64 (IntKind.wrap .u8 (((a0.getD i1 0).toNat:Int)-48))))))
def zwc (a0:(List UInt8)):Int:=
 (bif (((a0.length:Int) != 5) || (((a0.getD 0 0).toNat:Int) != 110))then 0 else(match yd (yim a0) (5-1) 1 0 with|.error e=>e|.ok s1=>s1))
namespace N156
theorem DD:DOk Tryz.prog (Go.Ab.DD []):=ye _
theorem den (a0:(List UInt8))  : Den Tryz.prog 156 [.str a0] (.int .i64 (zwc a0)):=by
 generalize hR:zwc a0=r
 unfold zwc at hR
 refine di Tryz.func156 Tryz.ntmps156 Tryz.results156 ?_
 intro c hL hc hk
 obtain⟨hL0,_⟩:=hL
 have hw0:a0.length<9223372036854775808:=Nat.lt_succ_of_le hL0
 clear hL0
 simp only[pars,Nat.zero_add]
 iterate 2 refine rS ?_
 refine AWP.cond rfl (fun hb => ?_) (fun hb => ?_)
 ·replace hR:=ct hR
  refine rS ?_
  refine AWP.ret ?_
  subst hR
  exact es
 ·replace hR:=cf hR
  iterate 2 refine rS ?_
  refine AWP.block ?_
  generalize hz1:yd (yim a0) (5-1) 1 0=z1 at hR
  refine AWP.range (yim a0) (fun i1 s1=>⟨[(0,.str a0),(3,.int .i64 s1),(4,.int .i64 (i1:Int))],[]⟩) (fun i1 s1=>1≤i1) (5) 1 0 [] hz1 ot wt sm ?_
  clear hz1
  intro i1 s1 hi1 hW1 hz1
  refine rS ?_
  refine AWP.cond rfl (fun hb => ?_) (fun hb => ?_)
  ·have hlt1:i1<5:=ot
   rw[yh hlt1]at hz1;simp only[yim]at hz1
   refine rS ?_
   refine AWP.cond rfl (fun hb => ?_) (fun hb => ?_)
   ·simp only[hb,cond_true]at hz1
    refine rS ?_
    refine AWP.ret ?_
    subst hz1
    dsimp only at hR
    subst hR
    exact es
   ·simp only[hb,cond_false]at hz1
    iterate 2 refine rS ?_
    exact⟨_,[],hlt1,wt,hz1,sm⟩
  ·obtain rfl:i1=5:=ot
   rw[yg (Nat.le_refl _)]at hz1;subst hz1;dsimp only at hR
   refine AWP.exit ?_;refine yb ?_
   refine rS ?_
   refine AWP.ret ?_
   subst hR
   exact es
end N156
def D_zwc : DF
 | [x0]=>some (.int .i64 (zwc (rdS x0)),false,[wS x0])
 | _=>none
theorem ynz:OkD Tryz.prog 156 D_zwc:=by unfold D_zwc;exact dk N156.den
end Go.Ab

namespace Go.Ab
open Go Go.Proofs
def zqe (a0:Item):Bool:=
 ((zvb a0.Key) && decide ((a0.Text.length:Int)≤400))
namespace N116
theorem DD:DOk Tryz.prog (Go.Ab.DD [(195,dP D_zvb)]):=ya y5s.e <| ye _
theorem dn:type_of% (@D_zvb.eq_1):=by and_intros<;>intros<;>rfl
theorem den (a0:Item)  : Den Tryz.prog 116 [.ep (eItem a0)] (.bool (zqe a0)):=by
 generalize hR:zqe a0=r
 unfold zqe at hR
 refine di Tryz.func116 Tryz.ntmps116 Tryz.results116 ?_
 intro c hL hc hk
 obtain⟨hL0,_⟩:=hL
 have hw0:bwItem a0:=ybb a0 hL0
 clear hL0
 simp only[pars,Nat.zero_add]
 iterate 2 refine rS ?_
 refine AWP.ret ?_
 subst hR
 exact es
end N116
def D_zqe : DF
 | [x0]=>some (.bool (zqe (rdP yhb x0)),false,[wP eItem yhb x0])
 | _=>none
theorem yt0:OkD Tryz.prog 116 D_zqe:=by unfold D_zqe;exact dk N116.den
end Go.Ab

namespace Go.Ab
open Go Go.Proofs
def yoi (a0:(List Item)) (i1:Nat) (s1:Unit):Except (Bool) (Unit):=
 (bif ((!(zqe (a0.getD i1 default))) || (decide (0<(i1:Int)) && !(Op.bytesLess ((a0.getD ((IntKind.wrap .i64 ((i1:Int)-1)).toNat) default).Key) ((a0.getD i1 default).Key))))then .error false else .ok ())
def ztb (a0:(List Item)):Bool:=
 (match yd (yoi a0) (a0.length-0) 0 ()with|.error e=>e|.ok s1=>decide ((a0.length:Int)≤40))
namespace N155
theorem DD:DOk Tryz.prog (Go.Ab.DD [(116,dP D_zqe)]):=ya yt0.e <| ye _
theorem dn:type_of% (@D_zqe.eq_1):=by and_intros<;>intros<;>rfl
theorem den (a0:(List Item))  : Den Tryz.prog 155 [encL 2 eItem a0] (.bool (ztb a0)):=by
 generalize hR:ztb a0=r
 unfold ztb at hR
 refine di Tryz.func155 Tryz.ntmps155 Tryz.results155 ?_
 intro c hL hc hk
 obtain⟨hL0,_⟩:=hL
 have hw0:a0.length<9223372036854775808:=Nat.lt_succ_of_le (yf hL0).1
 have hw1:∀ v∈a0,bwItem v:=fun v hv=>ybb v ((yf hL0).2 v hv)
 clear hL0
 simp only[pars,Nat.zero_add]
 iterate 2 refine rS ?_
 refine AWP.block ?_
 generalize hz1:yd (yoi a0) (a0.length-0) 0 ()=z1 at hR
 refine AWP.range (yoi a0) (fun i1 s1=>⟨[(0,encL 2 eItem a0),(3,.int .i64 (i1:Int))],[]⟩) (fun i1 s1=>True) (a0.length) 0 () [] hz1 ot wt sm ?_
 clear hz1
 intro i1 s1 hi1 hW1 hz1
 refine rS ?_
 refine AWP.cond rfl (fun hb => ?_) (fun hb => ?_)
 ·have hlt1:i1<a0.length:=ot
  rw[yh hlt1]at hz1;simp only[yoi]at hz1
  refine rD 23 ?_
  refine AWP.cond rfl (fun hb => ?_) (fun hb => ?_)
  ·simp only[hb,cond_true]at hz1
   refine rS ?_
   refine AWP.ret ?_
   subst hz1
   dsimp only at hR
   subst hR
   exact es
  ·simp only[hb,cond_false]at hz1
   refine rS ?_
   exact⟨_,[],hlt1,wt,hz1,sm⟩
 ·obtain rfl:i1=a0.length:=ot
  rw[yg (Nat.le_refl _)]at hz1;subst hz1;dsimp only at hR
  refine AWP.exit ?_;refine yb ?_
  refine rS ?_
  refine AWP.ret ?_
  subst hR
  exact es
end N155
def D_ztb : DF
 | [x0]=>some (.bool (ztb (rdL yhb x0)),false,[wL 2 eItem yhb x0])
 | _=>none
theorem yi2:OkD Tryz.prog 155 D_ztb:=by unfold D_ztb;exact dk N155.den
end Go.Ab

namespace Go.Ab
open Go Go.Proofs
theorem yz5 (a:List Item) (h:ztb a=true):a.length≤40:=by
 unfold ztb at h
 rcases yrw (b:=yoi a) (fun i=>((!(zqe (a.getD i default))) || (decide (0<(i:Int)) && !(Op.bytesLess ((a.getD ((IntKind.wrap .i64 ((i:Int)-1)).toNat) default).Key) ((a.getD i default).Key))))) false a.length (fun j u _=>rfl)with⟨_,h2⟩|⟨_,h2⟩
 ·rw[h2]at h
  have:=of_decide_eq_true h
  omega
 ·rw[h2]at h
  cases h
end Go.Ab
