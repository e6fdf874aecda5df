/- A part of a proof: walks of functions and lemmas of our own. No conditions. -/
import Derived.Test.YtopoomikfjodkaaGreatDoorVAl
import Derived.Test.YtopoomikfjodkaaGreatDoorVAs
import Derived.Test.YtopoomikfjodkaaGreatDoorVAp
import Derived.Test.YtopoomikfjodkaaGreatDoorVAi
set_option linter.unusedSectionVars false
set_option linter.unusedVariables false
set_option linter.unusedSimpArgs false
set_option maxHeartbeats 1000000
namespace Go.Ab
open Go Go.Proofs
def yhu (a0:Character) (i1:Nat) (s1:List Int):Except ((List Int)) (List Int):=
 (bif decide (0<(i1:Int))then(bif ((((zib a0.Letter).getD i1 0).toNat:Int) == 45)then .ok ((s1++([(zj a0.Kind).2.1]:List Int))++([IntKind.wrap .i64 (3 * ((zj a0.Kind).1))]:List Int))else .ok ((s1++([(zj a0.Kind).2.1]:List Int))++([(zj a0.Kind).1]:List Int)))else(bif ((((zib a0.Letter).getD i1 0).toNat:Int) == 45)then .ok (s1++([IntKind.wrap .i64 (3 * ((zj a0.Kind).1))]:List Int))else .ok (s1++([(zj a0.Kind).1]:List Int))))
def ynu (a0:Character) (i2:Nat) (s2:List Int) (i3:Nat) (s3:List Int):Except ((List Int)) (List Int):=
 (bif decide (0<(i3:Int))then .ok ((s3++([(zj a0.Kind).2.1]:List Int))++([(zj a0.Kind).1]:List Int))else(bif decide (0<(i2:Int))then .ok ((s3++([IntKind.wrap .i64 (((zj a0.Kind).2.1)+20)]:List Int))++([(zj a0.Kind).1]:List Int))else .ok (s3++([(zj a0.Kind).1]:List Int))))
def ygu (a0:Character) (i2:Nat) (s2:List Int):Except ((List Int)) (List Int):=
 (match yf (ynu a0 i2 s2) (((([1]:List Int).getD i2 default)).toNat-0) 0 s2 with|.error e=>.error e|.ok s3=>.ok s3)
def y2u (a0:Character) (i4:Nat) (s4:List Int) (i5:Nat) (s5:List Int):Except ((List Int)) (List Int):=
 (bif decide (0<(i5:Int))then .ok ((s5++([(zj a0.Kind).2.1]:List Int))++([(zj a0.Kind).1]:List Int))else(bif decide (0<(i4:Int))then .ok ((s5++([IntKind.wrap .i64 (((zj a0.Kind).2.1)+20)]:List Int))++([(zj a0.Kind).1]:List Int))else .ok (s5++([(zj a0.Kind).1]:List Int))))
def y9t (a0:Character) (i4:Nat) (s4:List Int):Except ((List Int)) (List Int):=
 (match yf (y2u a0 i4 s4) (((a0.Group.getD i4 default)).toNat-0) 0 s4 with|.error e=>.error e|.ok s5=>.ok s5)
def zi (a0:Character):(List Int):=
 (bif (a0.Kind == 8)then(match yf (yhu a0) ((zib a0.Letter).length-0) 0 ([]:List Int)with|.error e=>e|.ok s1=>s1)else(bif ((a0.Group.length:Int) == 0)then(match yf (ygu a0) (1-0) 0 ([]:List Int)with|.error e=>e|.ok s2=>(bif (a0.Letter != [])then s2++([(zj a0.Kind).2.1,20]:List Int)else s2))else(match yf (y9t a0) (a0.Group.length-0) 0 ([]:List Int)with|.error e=>e|.ok s4=>(bif (a0.Letter != [])then s4++([(zj a0.Kind).2.1,20]:List Int)else s4))))
namespace N271
theorem DD:DOk Tryz.prog (Go.Ab.DD [(267,dP D_zib),(269,dP D_zj)]):=ya yor.e <| ya yow.e <| yd _
theorem dn:type_of% (And.intro @D_zib.eq_1 <| @D_zj.eq_1):=by and_intros<;>intros<;>rfl
theorem o2 {p:Prop} (h:p:=by(first|(and_intros<;>first|decide|omega|(simp;(first|done|fail))|(rw[IntKind.wrap_i64];have:=hg9 i4;omega)|(rw[IntKind.wrap_i64];have:=hg1 i2;omega)|(rw[IntKind.wrap_i64];omega)|(intro i hi;exact yyl _ _ i hi)|(intro i hi;exact yum _ _ _ i hi)));first|done|fail):p:=h
theorem o3 {p:Prop} (h:p:=by(first|(refine⟨⟨Nat.le_refl _,fun i hi=>yvm _ _ _ i hi⟩,.inl fun i hi=>by rw[yoi _ _ _ i hi];simp[NoBorL,NoBor],by simp,fun i hi=>by rw[yoi _ _ _ i hi];exact ygb _⟩));first|done|fail):p:=h
theorem lx {p:Prop} (h:p:=by(exact lxx);first|done|fail):p:=h
set_option maxHeartbeats 1000000 in
set_option maxRecDepth 20000 in
theorem den (a0:Character) (hb0:bdCharacter a0) (hp0:a0.Group.length≤4) (hp1:∀ v∈a0.Group,v≤9):Den Tryz.prog 271 [.agg (eCharacter a0)] (ownL 2 1 yp (zi a0)):=by
 generalize hR:zi a0=r
 unfold zi at hR
 refine di Tryz.func271 Tryz.ntmps271 Tryz.results271 ?_
 intro c hL hc hk
 obtain⟨hL0,_⟩:=hL
 have hw0:bwCharacter a0:=ym a0 hL0
 clear hL0
 simp only[pars,Nat.zero_add]
 have hg9:∀ i:Nat,a0.Group.getD i default≤9:=fun i=>yll hp1 i
 have hs9:=yix a0.Letter
 have hs8:=yhq a0.Letter
 have hg1:∀ i:Nat,([1]:List Int).getD i default≤9:=fun i=>yll (by simp) i
 iterate 3 refine rS ?_
 refine AWP.cond rfl (fun hb => ?_) (fun hb => ?_)
 ·replace hR:=ct hR
  iterate 2 refine rS ?_
  refine AWP.block ?_
  refine AWP.lensT 27 rfl (fun hLn1 => ?_)
  generalize hz1:yf (yhu a0) ((zib a0.Letter).length-0) 0 ([]:List Int)=z1 at hR
  refine AWP.range (yhu a0) (fun i1 s1=>⟨[(3,.int .i64 ((zj a0.Kind).1)),(4,.int .i64 ((zj a0.Kind).2.1)),(6,.ref 0 1 0 s1.length),(28,.ptr 1 0)],[.arr 2 1 s1.length (fun j=>yp (s1.getD j default)),.it (zib a0.Letter) i1 (decide (i1<(zib a0.Letter).length))]⟩) (fun i1 s1=>s1.length≤([]:List Int).length+2 * i1∧s1.length≤2 * i1) ((zib a0.Letter).length) 0 ([]:List Int) [1,2] hz1 ot wt sm ?_
  clear hz1
  intro i1 s1 hi1 hW1 hz1
  refine AWP.seq ?_
  by_cases hlt1:i1<(zib a0.Letter).length
  ·rw[yh hlt1]at hz1;simp only[yhu]at hz1
   rw[decide_eq_true hlt1]
   refine rS ?_
   refine AWP.seq ?_
   refine AWP.cond rfl (fun hb => ?_) (fun hb=>nomatch hb)
   iterate 2 refine rS ?_
   refine AWP.cond rfl (fun hb => ?_) (fun hb => ?_)
   ·simp only[hb,cond_true]at hz1
    iterate 2 refine rS ?_
    refine AWP.cond rfl (fun hb => ?_) (fun hb => ?_)
    ·simp only[hb,cond_true]at hz1
     refine rS ?_
     exact⟨_,[5,1],hlt1,wt,hz1,sm⟩
    ·simp only[hb,cond_false]at hz1
     refine rS ?_
     exact⟨_,[5,1],hlt1,wt,hz1,sm⟩
   ·simp only[hb,cond_false]at hz1
    refine rS ?_
    refine AWP.cond rfl (fun hb => ?_) (fun hb => ?_)
    ·simp only[hb,cond_true]at hz1
     refine rS ?_
     exact⟨_,[3,1],hlt1,wt,hz1,sm⟩
    ·simp only[hb,cond_false]at hz1
     refine rS ?_
     exact⟨_,[3,1],hlt1,wt,hz1,sm⟩
  ·obtain rfl:i1=(zib a0.Letter).length:=by omega
   rw[yi (Nat.le_refl _)]at hz1;subst hz1;dsimp only at hR
   simp only[Nat.lt_irrefl,decide_false]
   refine rS ?_
   refine AWP.seq ?_
   refine AWP.cond rfl (fun hb=>nomatch hb) (fun hb => ?_)
   refine AWP.exit ?_;refine yb ?_
   refine rS ?_
   refine AWP.ret ?_
   subst hR
   exact es
 ·replace hR:=cf hR
  iterate 2 refine rS ?_
  refine AWP.cond rfl (fun hb => ?_) (fun hb => ?_)
  ·replace hR:=ct hR
   iterate 3 refine rS ?_
   refine AWP.block ?_
   generalize hz2:yf (ygu a0) (1-0) 0 ([]:List Int)=z2 at hR
   refine AWP.range (ygu a0) (fun i2 s2=>⟨[(1,.ptr 0 0),(3,.int .i64 ((zj a0.Kind).1)),(4,.int .i64 ((zj a0.Kind).2.1)),(10,.ref 1 1 0 s2.length),(58,.ref 2 1 0 1),(59,.int .i64 1),(60,.int .i64 (i2:Int))],[.box [.int .i64 a0.Kind,encL 1 yp a0.Group,.str a0.Letter,.str a0.Colors,.int .i64 a0.Period],.arr 2 1 s2.length (fun j=>yp (s2.getD j default)),.arr 2 1 ([1]:List Int).length (fun j=>yp (([1]:List Int).getD j default))]⟩) (fun i2 s2=>s2.length≤18 * i2) (1) 0 ([]:List Int) [0,2,1] hz2 ot wt sm ?_
   clear hz2
   intro i2 s2 hi2 hW2 hz2
   refine rS ?_
   refine AWP.seq ?_
   refine AWP.cond rfl (fun hb => ?_) (fun hb => ?_)
   ·have hlt2:i2<1:=ot
    rw[yh hlt2]at hz2;simp only[ygu]at hz2
    iterate 2 refine rS ?_
    refine AWP.block ?_
    generalize hz3:yf (ynu a0 i2 s2) (((([1]:List Int).getD i2 default)).toNat-0) 0 s2=z3 at hz2
    refine AWP.range (ynu a0 i2 s2) (fun i3 s3=>⟨[(1,.ptr 0 0),(3,.int .i64 ((zj a0.Kind).1)),(4,.int .i64 ((zj a0.Kind).2.1)),(10,.ref 1 1 0 s3.length),(11,.int .i64 (i2:Int)),(58,.ref 2 1 0 1),(59,.int .i64 1),(60,.int .i64 (i2:Int)),(65,.int .i64 (([1]:List Int).getD i2 default)),(66,.int .i64 (i3:Int))],[.box [.int .i64 a0.Kind,encL 1 yp a0.Group,.str a0.Letter,.str a0.Colors,.int .i64 a0.Period],.arr 2 1 s3.length (fun j=>yp (s3.getD j default)),.arr 2 1 ([1]:List Int).length (fun j=>yp (([1]:List Int).getD j default))]⟩) (fun i3 s3=>s3.length≤s2.length+2 * i3∧s3.length≤18 * i2+2 * i3) (((([1]:List Int).getD i2 default)).toNat) 0 s2 [0,1,2] hz3 ot wt sm ?_
    clear hz3
    intro i3 s3 hi3 hW3 hz3
    refine rS ?_
    refine AWP.seq ?_
    refine AWP.cond rfl (fun hb => ?_) (fun hb => ?_)
    ·have hlt3:i3<((([1]:List Int).getD i2 default)).toNat:=ot
     rw[yh hlt3]at hz3;simp only[ynu]at hz3
     iterate 2 refine rS ?_
     refine AWP.cond rfl (fun hb => ?_) (fun hb => ?_)
     ·simp only[hb,cond_true]at hz3
      iterate 3 refine rS ?_
      exact⟨_,[0,6,2],hlt3,wt,hz3,sm⟩
     ·simp only[hb,cond_false]at hz3
      refine rS ?_
      refine AWP.cond rfl (fun hb => ?_) (fun hb => ?_)
      ·simp only[hb,cond_true]at hz3
       iterate 3 refine rS ?_
       exact⟨_,[0,6,2],hlt3,wt,hz3,sm⟩
      ·simp only[hb,cond_false]at hz3
       iterate 2 refine rS ?_
       exact⟨_,[0,4,2],hlt3,wt,hz3,sm⟩
    ·obtain rfl:i3=((([1]:List Int).getD i2 default)).toNat:=ot
     rw[yi (Nat.le_refl _)]at hz3;subst hz3;dsimp only at hz2
     refine AWP.exit ?_;refine yb ?_
     refine rS ?_
     exact⟨_,[0,1,2],hlt2,by(have h9:=hg1 i2;omega),hz2,sm⟩
   ·obtain rfl:i2=1:=ot
    rw[yi (Nat.le_refl _)]at hz2;subst hz2;dsimp only at hR
    refine AWP.exit ?_;refine yb ?_
    refine rS ?_
    refine AWP.cond rfl (fun hb => ?_) (fun hb => ?_)
    ·replace hR:=ct hR
     iterate 2 refine rS ?_
     refine AWP.ret ?_
     subst hR
     exact es
    ·replace hR:=cf hR
     refine rS ?_
     refine AWP.ret ?_
     subst hR
     exact es
  ·replace hR:=cf hR
   iterate 2 refine rS ?_
   refine AWP.block ?_
   refine AWP.lensS 9 rfl (fun hLn4 => ?_)
   generalize hz4:yf (y9t a0) (a0.Group.length-0) 0 ([]:List Int)=z4 at hR
   refine AWP.range (y9t a0) (fun i4 s4=>⟨[(1,.ptr 0 0),(3,.int .i64 ((zj a0.Kind).1)),(4,.int .i64 ((zj a0.Kind).2.1)),(10,.ref 1 1 0 s4.length),(58,encL 1 yp a0.Group),(59,.int .i64 (a0.Group.length:Int)),(60,.int .i64 (i4:Int))],[.box [.int .i64 a0.Kind,encL 1 yp a0.Group,.str a0.Letter,.str a0.Colors,.int .i64 a0.Period],.arr 2 1 s4.length (fun j=>yp (s4.getD j default))]⟩) (fun i4 s4=>s4.length≤18 * i4) (a0.Group.length) 0 ([]:List Int) [0,1] hz4 ot wt sm ?_
   clear hz4
   intro i4 s4 hi4 hW4 hz4
   refine rS ?_
   refine AWP.seq ?_
   refine AWP.cond rfl (fun hb => ?_) (fun hb => ?_)
   ·have hlt4:i4<a0.Group.length:=ot
    rw[yh hlt4]at hz4;simp only[y9t]at hz4
    iterate 2 refine rS ?_
    refine AWP.block ?_
    generalize hz5:yf (y2u a0 i4 s4) (((a0.Group.getD i4 default)).toNat-0) 0 s4=z5 at hz4
    refine AWP.range (y2u a0 i4 s4) (fun i5 s5=>⟨[(1,.ptr 0 0),(3,.int .i64 ((zj a0.Kind).1)),(4,.int .i64 ((zj a0.Kind).2.1)),(10,.ref 1 1 0 s5.length),(11,.int .i64 (i4:Int)),(58,encL 1 yp a0.Group),(59,.int .i64 (a0.Group.length:Int)),(60,.int .i64 (i4:Int)),(65,.int .i64 (a0.Group.getD i4 default)),(66,.int .i64 (i5:Int))],[.box [.int .i64 a0.Kind,encL 1 yp a0.Group,.str a0.Letter,.str a0.Colors,.int .i64 a0.Period],.arr 2 1 s5.length (fun j=>yp (s5.getD j default))]⟩) (fun i5 s5=>s5.length≤s4.length+2 * i5∧s5.length≤18 * i4+2 * i5) (((a0.Group.getD i4 default)).toNat) 0 s4 [0,1] hz5 ot wt sm ?_
    clear hz5
    intro i5 s5 hi5 hW5 hz5
    refine rS ?_
    refine AWP.seq ?_
    refine AWP.cond rfl (fun hb => ?_) (fun hb => ?_)
    ·have hlt5:i5<((a0.Group.getD i4 default)).toNat:=ot
     rw[yh hlt5]at hz5;simp only[y2u]at hz5
     iterate 2 refine rS ?_
     refine AWP.cond rfl (fun hb => ?_) (fun hb => ?_)
     ·simp only[hb,cond_true]at hz5
      iterate 3 refine rS ?_
      exact⟨_,[0,5],hlt5,wt,hz5,sm⟩
     ·simp only[hb,cond_false]at hz5
      refine rS ?_
      refine AWP.cond rfl (fun hb => ?_) (fun hb => ?_)
      ·simp only[hb,cond_true]at hz5
       iterate 3 refine rS ?_
       exact⟨_,[0,5],hlt5,wt,hz5,sm⟩
      ·simp only[hb,cond_false]at hz5
       iterate 2 refine rS ?_
       exact⟨_,[0,3],hlt5,wt,hz5,sm⟩
    ·obtain rfl:i5=((a0.Group.getD i4 default)).toNat:=ot
     rw[yi (Nat.le_refl _)]at hz5;subst hz5;dsimp only at hz4
     refine AWP.exit ?_;refine yb ?_
     refine rS ?_
     exact⟨_,[0,1],hlt4,by(have h9:=hg9 i4;omega),hz4,sm⟩
   ·obtain rfl:i4=a0.Group.length:=ot
    rw[yi (Nat.le_refl _)]at hz4;subst hz4;dsimp only at hR
    refine AWP.exit ?_;refine yb ?_
    refine rS ?_
    refine AWP.cond rfl (fun hb => ?_) (fun hb => ?_)
    ·replace hR:=ct hR
     iterate 2 refine rS ?_
     refine AWP.ret ?_
     subst hR
     exact es
    ·replace hR:=cf hR
     refine rS ?_
     refine AWP.ret ?_
     subst hR
     exact es
end N271
def D_zi : DF
 | [x0]=>some (ownL 2 1 yp (zi (rdG yc x0)),false,[wG eCharacter yc x0,bdCharacter (rdG yc x0),(rdG yc x0).Group.length≤4,∀ v∈(rdG yc x0).Group,v≤9])
 | _=>none
theorem yj3:OkD Tryz.prog 271 D_zi:=by unfold D_zi;exact dk N271.den
end Go.Ab

namespace Go.Ab
open Go Go.Proofs
def zlg (a0:Character):Int:=
 (bif (zlc a0)then 0 else(bif (a0.Kind == 3)then 20 else(bif decide (1<(a0.Group.length:Int))then IntKind.wrap .i64 ((zie (zi a0))+(IntKind.wrap .i64 (((zj a0.Kind).2.2)+20)))else IntKind.wrap .i64 ((zie (zi a0))+((zj a0.Kind).2.2)))))
namespace N192
theorem DD:DOk Tryz.prog (Go.Ab.DD [(191,dP D_zlc),(269,dP D_zj),(270,dP D_zie),(271,dP D_zi)]):=ya y3s.e <| ya yow.e <| ya yg0.e <| ya yj3.e <| yd _
theorem dn:type_of% (And.intro @D_zlc.eq_1 <| And.intro @D_zj.eq_1 <| And.intro @D_zie.eq_1 <| @D_zi.eq_1):=by and_intros<;>intros<;>rfl
theorem den (a0:Character) (hb0:bdCharacter a0) (hp0:a0.Group.length≤4) (hp1:∀ v∈a0.Group,v≤9):Den Tryz.prog 192 [.agg (eCharacter a0)] (.int .i64 (zlg a0)):=by
 generalize hR:zlg a0=r
 unfold zlg at hR
 refine di Tryz.func192 Tryz.ntmps192 Tryz.results192 ?_
 intro c hL hc hk
 obtain⟨hL0,_⟩:=hL
 have hw0:bwCharacter a0:=ym a0 hL0
 clear hL0
 simp only[pars,Nat.zero_add]
 iterate 2 refine rS ?_
 refine AWP.cond rfl (fun hb => ?_) (fun hb => ?_)
 ·replace hR:=ct hR
  refine rS ?_
  refine AWP.ret ?_
  subst hR
  exact es
 ·replace hR:=cf hR
  refine rS ?_
  refine AWP.cond rfl (fun hb => ?_) (fun hb => ?_)
  ·replace hR:=ct hR
   refine rS ?_
   refine AWP.ret ?_
   subst hR
   exact es
  ·replace hR:=cf hR
   iterate 2 refine rS ?_
   refine AWP.cond rfl (fun hb => ?_) (fun hb => ?_)
   ·replace hR:=ct hR
    iterate 2 refine rS ?_
    refine AWP.ret ?_
    subst hR
    exact es
   ·replace hR:=cf hR
    refine rS ?_
    refine AWP.ret ?_
    subst hR
    exact es
end N192
def D_zlg : DF
 | [x0]=>some (.int .i64 (zlg (rdG yc x0)),false,[wG eCharacter yc x0,bdCharacter (rdG yc x0),(rdG yc x0).Group.length≤4,∀ v∈(rdG yc x0).Group,v≤9])
 | _=>none
theorem yz1:OkD Tryz.prog 192 D_zlg:=by unfold D_zlg;exact dk N192.den
end Go.Ab

namespace Go.Ab
open Go Go.Proofs
def ygn (a0:(List Sector)) (i1:Nat) (s1:List UInt8) (i2:Nat) (s2:List UInt8):Except ((List UInt8)) (List UInt8):=
 (bif ((((a0.getD i2 default).Color) == (([87,82,71,89].take ((IntKind.wrap .i64 ((i1:Int)+1)).toNat)).drop i1)) && (!(zkb s2 (([87,82,71,89].take ((IntKind.wrap .i64 ((i1:Int)+1)).toNat)).drop i1))))then .ok (s2++(([87,82,71,89].take ((IntKind.wrap .i64 ((i1:Int)+1)).toNat)).drop i1))else .ok s2)
def ydl (a0:(List Sector)) (i1:Nat) (s1:List UInt8):Except ((List UInt8)) (List UInt8):=
 (match yf (ygn a0 i1 s1) (a0.length-0) 0 s1 with|.error e=>.error e|.ok s2=>.ok s2)
def zgc (a0:(List Sector)):(List UInt8):=
 (match yf (ydl a0) ([87,82,71,89].length-0) 0 []with|.error e=>e|.ok s1=>s1)
namespace N216
theorem DD:DOk Tryz.prog (Go.Ab.DD [(286,dP D_zkb)]):=ya ydr.e <| yd _
theorem dn:type_of% (@D_zkb.eq_1):=by and_intros<;>intros<;>rfl
theorem o0 {p:Prop} (h:p:=by(first|(have h4:=hq4 i1;have h1:=hW1;have h2:=hW2;and_intros<;>first|omega|exact y1r (by omega)));first|done|fail):p:=h
theorem den (a0:(List Sector)) (hb0:a0.length<1099511627776) (hb1:∀ v∈a0,bdSector v):Den Tryz.prog 216 [encL 3 eSector a0] (.str (zgc a0)):=by
 generalize hR:zgc a0=r
 unfold zgc at hR
 refine di Tryz.func216 Tryz.ntmps216 Tryz.results216 ?_
 intro c hL hc hk
 obtain⟨hL0,_⟩:=hL
 have hw0:a0.length<9223372036854775808:=Nat.lt_succ_of_le (ye hL0).1
 have hw1:∀ v∈a0,bwSector v:=fun v hv=>yn v ((ye hL0).2 v hv)
 clear hL0
 simp only[pars,Nat.zero_add]
 have hq4:=ybz
 iterate 3 refine rS ?_
 refine AWP.block ?_
 generalize hz1:yf (ydl a0) ([87,82,71,89].length-0) 0 []=z1 at hR
 refine AWP.range (ydl a0) (fun i1 s1=>⟨[(0,encL 3 eSector a0),(3,.str s1),(8,.ptr 0 0)],[.it [87,82,71,89] i1 (decide (i1<[87,82,71,89].length))]⟩) (fun i1 s1=>s1.length≤1099511627776 * i1) ([87,82,71,89].length) 0 [] [0] hz1 ot (by(simp)) sm ?_
 clear hz1
 intro i1 s1 hi1 hW1 hz1
 refine AWP.seq ?_
 by_cases hlt1:i1<[87,82,71,89].length
 ·rw[yh hlt1]at hz1;simp only[ydl]at hz1
  rw[decide_eq_true hlt1]
  refine rS ?_
  refine AWP.seq ?_
  refine AWP.cond rfl (fun hb => ?_) (fun hb=>nomatch hb)
  iterate 2 refine rS ?_
  refine AWP.block ?_
  generalize hz2:yf (ygn a0 i1 s1) (a0.length-0) 0 s1=z2 at hz1
  refine AWP.range (ygn a0 i1 s1) (fun i2 s2=>⟨[(0,encL 3 eSector a0),(3,.str s2),(4,.int .i64 (i1:Int)),(8,.ptr 0 0),(12,encL 3 eSector a0),(13,.int .i64 (a0.length:Int)),(14,.int .i64 (i2:Int))],[.it [87,82,71,89] (i1+1) (decide (i1+1<[87,82,71,89].length))]⟩) (fun i2 s2=>s2.length≤1099511627776 * i1+i2) (a0.length) 0 s1 [0] hz2 ot (by(exact hW1)) sm ?_
  clear hz2
  intro i2 s2 hi2 hW2 hz2
  refine rS ?_
  refine AWP.seq ?_
  refine AWP.cond rfl (fun hb => ?_) (fun hb => ?_)
  ·have hlt2:i2<a0.length:=ot
   rw[yh hlt2]at hz2;simp only[ygn]at hz2
   iterate 3 refine rS ?_
   refine AWP.cond rfl (fun hb => ?_) (fun hb => ?_)
   ·simp only[hb,cond_true]at hz2
    iterate 2 refine rS ?_
    exact⟨_,[0],hlt2,by(have h4:=hq4 i1;have h2:=hW2;simp only[ln]at *;omega),hz2,sm⟩
   ·simp only[hb,cond_false]at hz2
    refine rS ?_
    exact⟨_,[0],hlt2,by(have h4:=hq4 i1;have h2:=hW2;simp only[ln]at *;omega),hz2,sm⟩
  ·obtain rfl:i2=a0.length:=ot
   rw[yi (Nat.le_refl _)]at hz2;subst hz2;dsimp only at hz1
   refine AWP.exit ?_;refine yb ?_
   exact⟨_,[0],hlt1,by(have h1:=hW1;omega),hz1,sm⟩
 ·obtain rfl:i1=[87,82,71,89].length:=by omega
  rw[yi (Nat.le_refl _)]at hz1;subst hz1;dsimp only at hR
  simp only[Nat.lt_irrefl,decide_false]
  refine rS ?_
  refine AWP.seq ?_
  refine AWP.cond rfl (fun hb=>nomatch hb) (fun hb => ?_)
  refine AWP.exit ?_;refine yb ?_
  refine rS ?_
  refine AWP.ret ?_
  subst hR
  exact es
end N216
def D_zgc : DF
 | [x0]=>some (.str (zgc (rdL yk x0)),false,[wL 3 eSector yk x0,(rdL yk x0).length<1099511627776,∀ v∈(rdL yk x0),bdSector v])
 | _=>none
theorem yuy:OkD Tryz.prog 216 D_zgc:=by unfold D_zgc;exact dk N216.den
end Go.Ab

namespace Go.Ab
open Go Go.Proofs
def ywk (a0:(List Int)) (a1:(List Int)) (i1:Nat) (s1:Unit):Except (Bool) (Unit):=
 (bif ((a0.getD i1 default) != (a1.getD i1 default))then .error false else .ok ())
def ztd (a0:(List Int)) (a1:(List Int)):Bool:=
 (bif ((a0.length:Int) != (a1.length:Int))then false else(match yf (ywk a0 a1) (a0.length-0) 0 ()with|.error e=>e|.ok s1=>true))
namespace N247
theorem DD:DOk Tryz.prog (Go.Ab.DD []):=yd _
theorem den (a0:(List Int)) (a1:(List Int))  : Den Tryz.prog 247 [encL 1 yp a0,encL 1 yp a1] (.bool (ztd a0 a1)):=by
 generalize hR:ztd a0 a1=r
 unfold ztd at hR
 refine di Tryz.func247 Tryz.ntmps247 Tryz.results247 ?_
 intro c hL hc hk
 obtain⟨hL0,hL1,_⟩:=hL
 have hw0:a0.length<9223372036854775808:=Nat.lt_succ_of_le (ye hL0).1
 have hw1:a1.length<9223372036854775808:=Nat.lt_succ_of_le (ye hL1).1
 clear hL0 hL1
 simp only[pars,Nat.zero_add]
 iterate 2 refine rS ?_
 refine AWP.cond rfl (fun hb => ?_) (fun hb => ?_)
 ·replace hR:=ct hR
  refine rS ?_
  refine AWP.ret ?_
  subst hR
  exact es
 ·replace hR:=cf hR
  refine rS ?_
  refine AWP.block ?_
  generalize hz1:yf (ywk a0 a1) (a0.length-0) 0 ()=z1 at hR
  refine AWP.range (ywk a0 a1) (fun i1 s1=>⟨[(0,encL 1 yp a0),(1,encL 1 yp a1),(12,.int .i64 (a0.length:Int)),(13,.int .i64 (i1:Int))],[]⟩) (fun i1 s1=>True) (a0.length) 0 () [] hz1 ot wt sm ?_
  clear hz1
  intro i1 s1 hi1 hW1 hz1
  refine rS ?_
  refine AWP.seq ?_
  refine AWP.cond rfl (fun hb => ?_) (fun hb => ?_)
  ·have hlt1:i1<a0.length:=ot
   rw[yh hlt1]at hz1;simp only[ywk]at hz1
   refine rS ?_
   refine rD 8 ?_
   refine AWP.cond rfl (fun hb => ?_) (fun hb => ?_)
   ·simp only[hb,cond_true]at hz1
    refine rS ?_
    refine AWP.ret ?_
    subst hz1
    dsimp only at hR
    subst hR
    exact es
   ·simp only[hb,cond_false]at hz1
    refine rS ?_
    exact⟨_,[],hlt1,wt,hz1,sm⟩
  ·obtain rfl:i1=a0.length:=ot
   rw[yi (Nat.le_refl _)]at hz1;subst hz1;dsimp only at hR
   refine AWP.exit ?_;refine yb ?_
   refine rS ?_
   refine AWP.ret ?_
   subst hR
   exact es
end N247
def D_ztd : DF
 | [x0,x1]=>some (.bool (ztd (rdL yob x0) (rdL yob x1)),false,[wL 1 yp yob x0,wL 1 yp yob x1])
 | _=>none
theorem y2y:OkD Tryz.prog 247 D_ztd:=by unfold D_ztd;exact dk N247.den
end Go.Ab

namespace Go.Ab
open Go Go.Proofs
theorem yfk (a b:List Int):ztd a b=decide (a=b):=by
 unfold ztd
 by_cases hl:a.length=b.length
 ·have h1:((a.length:Int) != (b.length:Int))=false:=by simp[hl]
  rw[h1,cond_false,yac (b:=ywk a b) (fun j => !decide (a.getD j default=b.getD j default)) false (fun j u _ _=>by simp only[ywk,ned])]
  simp only[Nat.sub_zero,Nat.zero_add]
  rw[yyk a b hl]
  by_cases h:a=b<;>simp[h]
 ·have h1:((a.length:Int) != (b.length:Int))=true:=by simp;omega
  have h2:¬ a=b:=fun e=>hl (by rw[e])
  rw[h1,cond_true,decide_eq_false h2]
end Go.Ab

namespace Go.Ab
open Go Go.Proofs
def zmg (a0:Int):Bool:=
 (zb a0 1 100000000)
namespace N214
theorem DD:DOk Tryz.prog (Go.Ab.DD [(181,dP D_zb)]):=ya yfc.e <| yd _
theorem dn:type_of% (@D_zb.eq_1):=by and_intros<;>intros<;>rfl
theorem ol:type_of% (@zb.eq_1):=@zb.eq_1
theorem den (a0:Int)  : Den Tryz.prog 214 [.int .i64 a0] (.bool (zmg a0)):=by
 generalize hR:zmg a0=r
 unfold zmg at hR
 refine di Tryz.func214 Tryz.ntmps214 Tryz.results214 ?_
 intro c hL hc hk
 clear hL
 simp only[pars,Nat.zero_add]
 iterate 2 refine rS ?_
 refine AWP.ret ?_
 subst hR
 exact es
end N214
def D_zmg : DF
 | [x0]=>some (.bool (zmg (rdI x0)),false,[wI .i64 x0])
 | _=>none
theorem yyx:OkD Tryz.prog 214 D_zmg:=by unfold D_zmg;exact dk N214.den
end Go.Ab

namespace Go.Ab
open Go Go.Proofs
def zsc (a0:Int):Bool:=
 (zb a0 1 9999)
namespace N209
theorem DD:DOk Tryz.prog (Go.Ab.DD [(181,dP D_zb)]):=ya yfc.e <| yd _
theorem dn:type_of% (@D_zb.eq_1):=by and_intros<;>intros<;>rfl
theorem ol:type_of% (@zb.eq_1):=@zb.eq_1
theorem den (a0:Int)  : Den Tryz.prog 209 [.int .i64 a0] (.bool (zsc a0)):=by
 generalize hR:zsc a0=r
 unfold zsc at hR
 refine di Tryz.func209 Tryz.ntmps209 Tryz.results209 ?_
 intro c hL hc hk
 clear hL
 simp only[pars,Nat.zero_add]
 iterate 2 refine rS ?_
 refine AWP.ret ?_
 subst hR
 exact es
end N209
def D_zsc : DF
 | [x0]=>some (.bool (zsc (rdI x0)),false,[wI .i64 x0])
 | _=>none
theorem yol:OkD Tryz.prog 209 D_zsc:=by unfold D_zsc;exact dk N209.den
end Go.Ab

namespace Go.Ab
open Go Go.Proofs
def zce (a0:Point):Bool:=
 ((zb a0.X 0 200000) && (zb a0.Y 0 200000))
namespace N211
theorem DD:DOk Tryz.prog (Go.Ab.DD [(181,dP D_zb)]):=ya yfc.e <| yd _
theorem dn:type_of% (@D_zb.eq_1):=by and_intros<;>intros<;>rfl
theorem ol:type_of% (@zb.eq_1):=@zb.eq_1
theorem den (a0:Point)  : Den Tryz.prog 211 [.agg (ePoint a0)] (.bool (zce a0)):=by
 generalize hR:zce a0=r
 unfold zce at hR
 refine di Tryz.func211 Tryz.ntmps211 Tryz.results211 ?_
 intro c hL hc hk
 clear hL
 simp only[pars,Nat.zero_add]
 iterate 2 refine rS ?_
 refine AWP.ret ?_
 subst hR
 exact es
end N211
def D_zce : DF
 | [x0]=>some (.bool (zce (rdG ysc x0)),false,[wG ePoint ysc x0])
 | _=>none
theorem yos:OkD Tryz.prog 211 D_zce:=by unfold D_zce;exact dk N211.den
end Go.Ab

namespace Go.Ab
open Go Go.Proofs
def zxg (a0:Int):Bool:=
 (zb a0 0 3000)
namespace N212
theorem DD:DOk Tryz.prog (Go.Ab.DD [(181,dP D_zb)]):=ya yfc.e <| yd _
theorem dn:type_of% (@D_zb.eq_1):=by and_intros<;>intros<;>rfl
theorem ol:type_of% (@zb.eq_1):=@zb.eq_1
theorem den (a0:Int)  : Den Tryz.prog 212 [.int .i64 a0] (.bool (zxg a0)):=by
 generalize hR:zxg a0=r
 unfold zxg at hR
 refine di Tryz.func212 Tryz.ntmps212 Tryz.results212 ?_
 intro c hL hc hk
 clear hL
 simp only[pars,Nat.zero_add]
 iterate 2 refine rS ?_
 refine AWP.ret ?_
 subst hR
 exact es
end N212
def D_zxg : DF
 | [x0]=>some (.bool (zxg (rdI x0)),false,[wI .i64 x0])
 | _=>none
theorem y2z:OkD Tryz.prog 212 D_zxg:=by unfold D_zxg;exact dk N212.den
end Go.Ab

namespace Go.Ab
open Go Go.Proofs
def zje (a0:Character) (a1:Character):Bool:=
 (((((a0.Kind == a1.Kind) && (ztd a0.Group a1.Group)) && (a0.Letter == a1.Letter)) && (a0.Colors == a1.Colors)) && (a0.Period == a1.Period))
namespace N150
theorem DD:DOk Tryz.prog (Go.Ab.DD [(247,dP D_ztd)]):=ya y2y.e <| yd _
theorem dn:type_of% (@D_ztd.eq_1):=by and_intros<;>intros<;>rfl
theorem den (a0:Character) (a1:Character)  : Den Tryz.prog 150 [.agg (eCharacter a0),.agg (eCharacter a1)] (.bool (zje a0 a1)):=by
 generalize hR:zje a0 a1=r
 unfold zje at hR
 refine di Tryz.func150 Tryz.ntmps150 Tryz.results150 ?_
 intro c hL hc hk
 obtain⟨hL0,hL1,_⟩:=hL
 have hw0:bwCharacter a0:=ym a0 hL0
 have hw1:bwCharacter a1:=ym a1 hL1
 clear hL0 hL1
 simp only[pars,Nat.zero_add]
 iterate 2 refine rS ?_
 refine AWP.ret ?_
 subst hR
 exact es
end N150
def D_zje : DF
 | [x0,x1]=>some (.bool (zje (rdG yc x0) (rdG yc x1)),false,[wG eCharacter yc x0,wG eCharacter yc x1])
 | _=>none
theorem yer:OkD Tryz.prog 150 D_zje:=by unfold D_zje;exact dk N150.den
end Go.Ab

namespace Go.Ab
open Go Go.Proofs
def zng (a0:Aid):Bool:=
 (((zje a0.Light ({ Kind:=0,Group:=[],Letter:=[],Colors:=[],Period:=0:Character })) && ((a0.Sectors.length:Int) == 0)) && (a0.Intensity == 0))
namespace N213
theorem DD:DOk Tryz.prog (Go.Ab.DD [(150,dP D_zje)]):=ya yer.e <| yd _
theorem dn:type_of% (@D_zje.eq_1):=by and_intros<;>intros<;>rfl
theorem den (a0:Aid)  : Den Tryz.prog 213 [.agg (eAid a0)] (.bool (zng a0)):=by
 generalize hR:zng a0=r
 unfold zng at hR
 refine di Tryz.func213 Tryz.ntmps213 Tryz.results213 ?_
 intro c hL hc hk
 obtain⟨hL0,_⟩:=hL
 have hw0:bwAid a0:=yy a0 hL0
 clear hL0
 simp only[pars,Nat.zero_add]
 iterate 2 refine rS ?_
 refine AWP.ret ?_
 subst hR
 exact es
end N213
def D_zng : DF
 | [x0]=>some (.bool (zng (rdG dAid x0)),false,[wG eAid dAid x0])
 | _=>none
theorem yb1:OkD Tryz.prog 213 D_zng:=by unfold D_zng;exact dk N213.den
end Go.Ab

namespace Go.Ab
open Go Go.Proofs
def zde (a0:Int):(List UInt8):=
 (zu a0 ([[],[70],[79,99],[73,115,111],[70,108],[76,70,108],[81],[86,81],[77,111]]:List (List UInt8)))
namespace N263
theorem DD:DOk Tryz.prog (Go.Ab.DD [(90,dP D_zu)]):=ya ygh.e <| yd _
theorem dn:type_of% (@D_zu.eq_1):=by and_intros<;>intros<;>rfl
theorem lx {p:Prop} (h:p:=by(exact lxx);first|done|fail):p:=h
theorem den (a0:Int)  : Den Tryz.prog 263 [.int .i64 a0] (.str (zde a0)):=by
 generalize hR:zde a0=r
 unfold zde at hR
 refine di Tryz.func263 Tryz.ntmps263 Tryz.results263 ?_
 intro c hL hc hk
 clear hL
 simp only[pars,Nat.zero_add]
 iterate 2 refine rS ?_
 refine AWP.ret ?_
 subst hR
 exact es
end N263
def D_zde : DF
 | [x0]=>some (.str (zde (rdI x0)),false,[wI .i64 x0])
 | _=>none
theorem yoz:OkD Tryz.prog 263 D_zde:=by unfold D_zde;exact dk N263.den
end Go.Ab

namespace Go.Ab
open Go Go.Proofs
theorem y5s (k:Int):(zde k).length≤3:=by
 unfold zde zu
 simp only[Bool.cond_eq_ite]
 split
 ·simp
 ·rw[List.getD_eq_getElem?_getD]
  have h:∀ x∈([[],[70],[79,99],[73,115,111],[70,108],[76,70,108],[81],[86,81],[77,111]]:List (List UInt8)),x.length≤3:=by decide
  cases hg:([[],[70],[79,99],[73,115,111],[70,108],[76,70,108],[81],[86,81],[77,111]]:List (List UInt8))[k.toNat]? with
  | none=>show(0:Nat)≤3;omega
  | some x=>exact h x (List.mem_of_getElem? hg)
end Go.Ab

namespace Go.Ab
open Go Go.Proofs
theorem ybj (xs:List (List UInt8)) (h:∀ v∈xs,v.length≤20):(zr xs [43]).length≤21 * xs.length∧(Go.Lib.join xs [43]).length≤21 * xs.length:=by
 have h1:=y9h [43] xs 20 h
 simp only[List.length_singleton]at h1
 exact⟨by show(Go.Lib.join xs [43]).length≤_;omega,by omega⟩
end Go.Ab

namespace Go.Ab
open Go Go.Proofs
def yal (a0:Character) (i1:Nat) (s1:List (List UInt8)):Except ((List UInt8)) (List (List UInt8)):=
 .ok (s1++[(zd (a0.Group.getD i1 default))])
def ztc (a0:Character):(List UInt8):=
 (bif (a0.Kind == 8)then(((zde a0.Kind)++[40])++a0.Letter)++[41]else(bif decide (0<(a0.Group.length:Int))then(match yf (yal a0) (a0.Group.length-0) 0 ([]:List (List UInt8))with|.error e=>e|.ok s1=>(bif (a0.Letter != [])then((zde a0.Kind)++(([40]++(zr s1 [43]))++[41]))++[43,76,70,108]else(zde a0.Kind)++(([40]++(zr s1 [43]))++[41])))else(bif (a0.Letter != [])then(zde a0.Kind)++[43,76,70,108]else(zde a0.Kind))))
namespace N217
theorem DD:DOk Tryz.prog (Go.Ab.DD [(107,dP D_zd),(263,dP D_zde),(83,dP D_zr)]):=ya yjd.e <| ya yoz.e <| ya yjh.e <| yd _
theorem dn:type_of% (And.intro @D_zd.eq_1 <| And.intro @D_zde.eq_1 <| @D_zr.eq_1):=by and_intros<;>intros<;>rfl
theorem gr {p:Prop} (h:p:=by(grind [yvb]);first|done|fail):p:=h
theorem o0 {p:Prop} (h:p:=by(first|(have h9:=ybj s1 (by first|exact hW1|exact hW1.2);first|omega|(simp only[ob,ln,List.length_singleton,List.length_append,List.length_cons,List.length_nil]at *;omega)|(and_intros<;>first|omega|(simp only[ob,ln,List.length_singleton,List.length_append,List.length_cons,List.length_nil]at *;omega)))|(have h9:=hg9 i1;and_intros<;>omega)|(simp only[ob,ln,List.length_singleton,List.length_append,List.length_cons,List.length_nil]at *;omega));first|done|fail):p:=h
theorem o1 {p:Prop} (h:p:=by(first|(have h9:=ybj s1 hW1.2;have h8:=hW1.1;simp only[ob,ln,List.length_singleton,List.length_append,List.length_cons,List.length_nil]at *;omega)|(have h9:=hg9 i1;omega));first|done|fail):p:=h
set_option maxHeartbeats 1000000 in
set_option maxRecDepth 20000 in
theorem den (a0:Character) (hb0:bdCharacter a0) (hp0:a0.Group.length≤4) (hp1:∀ v∈a0.Group,1≤v∧v≤9):Den Tryz.prog 217 [.agg (eCharacter a0)] (.str (ztc a0)):=by
 generalize hR:ztc a0=r
 unfold ztc at hR
 refine di Tryz.func217 Tryz.ntmps217 Tryz.results217 ?_
 intro c hL hc hk
 obtain⟨hL0,_⟩:=hL
 have hw0:bwCharacter a0:=ym a0 hL0
 clear hL0
 simp only[pars,Nat.zero_add]
 have hg9:∀ i:Nat,0≤a0.Group.getD i default∧a0.Group.getD i default≤9:=fun i=>y1g hp1 i
 have hk9:=y5s a0.Kind
 iterate 3 refine rS ?_
 refine AWP.cond rfl (fun hb => ?_) (fun hb => ?_)
 ·replace hR:=ct hR
  refine rS ?_
  refine AWP.ret ?_
  subst hR
  exact es
 ·replace hR:=cf hR
  refine rS ?_
  refine AWP.cond rfl (fun hb => ?_) (fun hb => ?_)
  ·replace hR:=ct hR
   iterate 2 refine rS ?_
   refine AWP.block ?_
   refine AWP.lensS 20 rfl (fun hLn1 => ?_)
   generalize hz1:yf (yal a0) (a0.Group.length-0) 0 ([]:List (List UInt8))=z1 at hR
   refine AWP.range (yal a0) (fun i1 s1=>⟨[(1,.ptr 0 0),(3,.str (zde a0.Kind)),(4,.ref 1 1 0 s1.length),(25,encL 1 yp a0.Group),(26,.int .i64 (a0.Group.length:Int)),(27,.int .i64 (i1:Int))],[.box [.int .i64 a0.Kind,encL 1 yp a0.Group,.str a0.Letter,.str a0.Colors,.int .i64 a0.Period],.arr 9 1 s1.length (fun j=>eS (s1.getD j default))]⟩) (fun i1 s1=>s1.length≤([]:List (List UInt8)).length+1 * i1∧∀ v∈s1,v.length≤20) (a0.Group.length) 0 ([]:List (List UInt8)) [0,1] hz1 ot wt sm ?_
   clear hz1
   intro i1 s1 hi1 hW1 hz1
   refine rS ?_
   refine AWP.seq ?_
   refine AWP.cond rfl (fun hb => ?_) (fun hb => ?_)
   ·have hlt1:i1<a0.Group.length:=ot
    rw[yh hlt1]at hz1;simp only[yal]at hz1
    iterate 3 refine rS ?_
    exact⟨_,[0,3],hlt1,by(and_intros<;>first|(simp only[ln,List.length_append,List.length_singleton,List.length_nil]at *;omega)|(intro v hv;exact(List.mem_append.1 hv).elim (fun h=>by first|exact hW1 v h|exact hW1.2 v h|exact hW1.2.2 v h) (fun h=>by rw[List.mem_singleton]at h;subst h;exact ydc _ (by have:=hg9 i1;omega) (by have:=hg9 i1;omega)))),hz1,sm⟩
   ·obtain rfl:i1=a0.Group.length:=ot
    rw[yi (Nat.le_refl _)]at hz1;subst hz1;dsimp only at hR
    refine AWP.exit ?_;refine yb ?_
    iterate 2 refine rS ?_
    refine AWP.cond rfl (fun hb => ?_) (fun hb => ?_)
    ·replace hR:=ct hR
     iterate 2 refine rS ?_
     refine AWP.ret ?_
     subst hR
     exact es
    ·replace hR:=cf hR
     refine rS ?_
     refine AWP.ret ?_
     subst hR
     exact es
  ·replace hR:=cf hR
   refine rS ?_
   refine AWP.cond rfl (fun hb => ?_) (fun hb => ?_)
   ·replace hR:=ct hR
    iterate 2 refine rS ?_
    refine AWP.ret ?_
    subst hR
    exact es
   ·replace hR:=cf hR
    refine rS ?_
    refine AWP.ret ?_
    subst hR
    exact es
end N217
def D_ztc : DF
 | [x0]=>some (.str (ztc (rdG yc x0)),false,[wG eCharacter yc x0,bdCharacter (rdG yc x0),(rdG yc x0).Group.length≤4,∀ v∈(rdG yc x0).Group,1≤v∧v≤9])
 | _=>none
theorem yn1:OkD Tryz.prog 217 D_ztc:=by unfold D_ztc;exact dk N217.den
end Go.Ab

namespace Go.Ab
open Go Go.Proofs
def zhf (a0:Int):(List UInt8):=
 (bif ((a0.tmod 10) == 0)then(zd (IntKind.wrap .i64 (a0.tdiv 10)))else((zd (IntKind.wrap .i64 (a0.tdiv 10)))++[46])++(zd (a0.tmod 10)))
namespace N218
theorem DD:DOk Tryz.prog (Go.Ab.DD [(107,dP D_zd)]):=ya yjd.e <| yd _
theorem dn:type_of% (@D_zd.eq_1):=by and_intros<;>intros<;>rfl
theorem gr {p:Prop} (h:p:=by(grind [yvb]);first|done|fail):p:=h
set_option maxHeartbeats 400000 in
set_option maxRecDepth 20000 in
theorem den (a0:Int) (hp0 : -9223372036854775808≤a0) (hp1:a0≤9223372036854775807):Den Tryz.prog 218 [.int .i64 a0] (.str (zhf a0)):=by
 generalize hR:zhf a0=r
 unfold zhf at hR
 refine di Tryz.func218 Tryz.ntmps218 Tryz.results218 ?_
 intro c hL hc hk
 clear hL
 simp only[pars,Nat.zero_add]
 have h1:=y3k (a0.tdiv 10)
 have ht:=yhi a0
 have h2:=ydc (a0.tmod 10) (by omega) (by omega)
 iterate 2 refine rS ?_
 refine AWP.cond rfl (fun hb => ?_) (fun hb => ?_)
 ·replace hR:=ct hR
  refine rS ?_
  refine AWP.ret ?_
  subst hR
  exact es
 ·replace hR:=cf hR
  refine rS ?_
  refine AWP.ret ?_
  subst hR
  exact es
end N218
def D_zhf : DF
 | [x0]=>some (.str (zhf (rdI x0)),false,[wI .i64 x0,-9223372036854775808≤(rdI x0),(rdI x0)≤9223372036854775807])
 | _=>none
theorem y01:OkD Tryz.prog 218 D_zhf:=by unfold D_zhf;exact dk N218.den
end Go.Ab

namespace Go.Ab
open Go Go.Proofs
def zif (a0:Int):(List UInt8):=
 (zu a0 ([[110,111,110,101],[108,101,102,116],[114,105,103,104,116],[110,111,114,116,104],[101,97,115,116],[115,111,117,116,104],[119,101,115,116],[100,97,110,103,101,114],[115,97,102,101],[115,112,101,99,105,97,108]]:List (List UInt8)))
namespace N22
theorem DD:DOk Tryz.prog (Go.Ab.DD [(90,dP D_zu)]):=ya ygh.e <| yd _
theorem dn:type_of% (@D_zu.eq_1):=by and_intros<;>intros<;>rfl
theorem lx {p:Prop} (h:p:=by(exact lxx);first|done|fail):p:=h
theorem den (a0:Int)  : Den Tryz.prog 22 [.int .i64 a0] (.str (zif a0)):=by
 generalize hR:zif a0=r
 unfold zif at hR
 refine di Tryz.func22 Tryz.ntmps22 Tryz.results22 ?_
 intro c hL hc hk
 clear hL
 simp only[pars,Nat.zero_add]
 iterate 2 refine rS ?_
 refine AWP.ret ?_
 subst hR
 exact es
end N22
def D_zif : DF
 | [x0]=>some (.str (zif (rdI x0)),false,[wI .i64 x0])
 | _=>none
theorem ya2:OkD Tryz.prog 22 D_zif:=by unfold D_zif;exact dk N22.den
end Go.Ab

namespace Go.Ab
open Go Go.Proofs
theorem yrf (l:List (List UInt8)) (h:∀ x∈l,x.length≤100) (n:Nat):(l.getD n default).length≤100:=by
 rw[List.getD_eq_getElem?_getD]
 cases hg:l[n]? with
 | none=>show(0:Nat)≤100;omega
 | some x=>exact h x (List.mem_of_getElem? hg)
theorem y8s (k:Int) (l:List (List UInt8)) (h:∀ x∈l,x.length≤100):(zu k l).length≤100:=by
 unfold zu
 simp only[Bool.cond_eq_ite]
 split
 ·simp
 ·exact yrf l h _
end Go.Ab

namespace Go.Ab
open Go Go.Proofs
def zyg (a0:Int):Bool:=
 (zb a0 2000 2273)
namespace N313
theorem DD:DOk Tryz.prog (Go.Ab.DD [(181,dP D_zb)]):=ya yfc.e <| yd _
theorem dn:type_of% (@D_zb.eq_1):=by and_intros<;>intros<;>rfl
theorem ol:type_of% (@zb.eq_1):=@zb.eq_1
theorem den (a0:Int)  : Den Tryz.prog 313 [.int .i64 a0] (.bool (zyg a0)):=by
 generalize hR:zyg a0=r
 unfold zyg at hR
 refine di Tryz.func313 Tryz.ntmps313 Tryz.results313 ?_
 intro c hL hc hk
 clear hL
 simp only[pars,Nat.zero_add]
 iterate 2 refine rS ?_
 refine AWP.ret ?_
 subst hR
 exact es
end N313
def D_zyg : DF
 | [x0]=>some (.bool (zyg (rdI x0)),false,[wI .i64 x0])
 | _=>none
theorem yu0:OkD Tryz.prog 313 D_zyg:=by unfold D_zyg;exact dk N313.den
end Go.Ab

namespace Go.Ab
open Go Go.Proofs
def zcd (a0:Int):Bool:=
 ((zyg a0) && ((((a0.tmod 4) == 0) && ((a0.tmod 100) != 0)) || ((a0.tmod 400) == 0)))
namespace N344
theorem DD:DOk Tryz.prog (Go.Ab.DD [(313,dP D_zyg)]):=ya yu0.e <| yd _
theorem dn:type_of% (@D_zyg.eq_1):=by and_intros<;>intros<;>rfl
theorem den (a0:Int)  : Den Tryz.prog 344 [.int .i64 a0] (.bool (zcd a0)):=by
 generalize hR:zcd a0=r
 unfold zcd at hR
 refine di Tryz.func344 Tryz.ntmps344 Tryz.results344 ?_
 intro c hL hc hk
 clear hL
 simp only[pars,Nat.zero_add]
 iterate 2 refine rS ?_
 refine AWP.ret ?_
 subst hR
 exact es
end N344
def D_zcd : DF
 | [x0]=>some (.bool (zcd (rdI x0)),false,[wI .i64 x0])
 | _=>none
theorem ymt:OkD Tryz.prog 344 D_zcd:=by unfold D_zcd;exact dk N344.den
end Go.Ab

namespace Go.Ab
open Go Go.Proofs
def zyb (a0:Int):Int:=
 (bif (zcd a0)then 366 else 365)
namespace N295
theorem DD:DOk Tryz.prog (Go.Ab.DD [(344,dP D_zcd)]):=ya ymt.e <| yd _
theorem dn:type_of% (@D_zcd.eq_1):=by and_intros<;>intros<;>rfl
theorem den (a0:Int)  : Den Tryz.prog 295 [.int .i64 a0] (.int .i64 (zyb a0)):=by
 generalize hR:zyb a0=r
 unfold zyb at hR
 refine di Tryz.func295 Tryz.ntmps295 Tryz.results295 ?_
 intro c hL hc hk
 clear hL
 simp only[pars,Nat.zero_add]
 iterate 2 refine rS ?_
 refine AWP.cond rfl (fun hb => ?_) (fun hb => ?_)
 ·replace hR:=ct hR
  refine rS ?_
  refine AWP.ret ?_
  subst hR
  exact es
 ·replace hR:=cf hR
  refine rS ?_
  refine AWP.ret ?_
  subst hR
  exact es
end N295
def D_zyb : DF
 | [x0]=>some (.int .i64 (zyb (rdI x0)),false,[wI .i64 x0])
 | _=>none
theorem yvz:OkD Tryz.prog 295 D_zyb:=by unfold D_zyb;exact dk N295.den
end Go.Ab

namespace Go.Ab
open Go Go.Proofs
def zab (a0:Int) (a1:Int):Int:=
 (bif ((a1 == 2) && (zcd a0))then 29 else([31,28,31,30,31,30,31,31,30,31,30,31]:List Int).getD ((IntKind.wrap .i64 (a1-1)).toNat) 0)
namespace N296
theorem DD:DOk Tryz.prog (Go.Ab.DD [(344,dP D_zcd)]):=ya ymt.e <| yd _
theorem dn:type_of% (@D_zcd.eq_1):=by and_intros<;>intros<;>rfl
theorem den (a0:Int) (a1:Int) (hp0:1≤a1) (hp1:a1≤12):Den Tryz.prog 296 [.int .i64 a0,.int .i64 a1] (.int .i64 (zab a0 a1)):=by
 generalize hR:zab a0 a1=r
 unfold zab at hR
 refine di Tryz.func296 Tryz.ntmps296 Tryz.results296 ?_
 intro c hL hc hk
 clear hL
 simp only[pars,Nat.zero_add]
 iterate 2 refine rS ?_
 refine AWP.cond rfl (fun hb => ?_) (fun hb => ?_)
 ·replace hR:=ct hR
  refine rS ?_
  refine AWP.ret ?_
  subst hR
  exact es
 ·replace hR:=cf hR
  refine rS ?_
  refine AWP.ret ?_
  subst hR
  exact es
end N296
def D_zab : DF
 | [x0,x1]=>some (.int .i64 (zab (rdI x0) (rdI x1)),false,[wI .i64 x0,wI .i64 x1,1≤(rdI x1),(rdI x1)≤12])
 | _=>none
theorem yiz:OkD Tryz.prog 296 D_zab:=by unfold D_zab;exact dk N296.den
end Go.Ab

namespace Go.Ab
open Go Go.Proofs
theorem yqn (y:Int):zyb y=365∨zyb y=366:=by
 unfold zyb
 cases zcd y<;>simp
end Go.Ab

namespace Go.Ab
open Go Go.Proofs
def ycq (y m:Int):Int:=(bif zcd y && decide (m≤2)then 1 else 0)+([365,334,306,275,245,214,184,153,122,92,61,31]:List Int).getD (m-1).toNat 0
theorem yxh (y : Int) : zab y 1 = 31 ∧ zab y 2 = (bif zcd y then 29 else 28) ∧ zab y 3 = 31 ∧ zab y 4 = 30 ∧ zab y 5 = 31 ∧ zab y 6 = 30
  ∧ zab y 7=31∧zab y 8=31∧zab y 9=30∧zab y 10=31∧zab y 11=30∧zab y 12=31:=by
 simp[zab,IntKind.wrap_i64]
theorem ylo (y:Int):ycq y 1=zyb y:=by
 unfold zyb ycq
 cases zcd y<;>rfl
theorem yih (y m d:Int) (h1:1≤m) (h2:m≤12) (h3:d<ycq y m) (h4:zab y m≤d):m≤11∧d-zab y m<ycq y (m+1)∧28≤zab y m∧zab y m≤31:=by
 obtain⟨e1,e2,e3,e4,e5,e6,e7,e8,e9,e10,e11,e12⟩:=yxh y
 rcases yjf h1 h2 with rfl|rfl|rfl|rfl|rfl|rfl|rfl|rfl|rfl|rfl|rfl|rfl<;>
  simp only[*]at h4 ⊢ <;> simp[ycq]at h3 ⊢ <;> cases hl:zcd y<;>simp_all<;>omega
end Go.Ab

namespace Go.Ab
open Go Go.Proofs
def y1t (a0:Int) (s1:Int×Int):Except (Sum ((Int×Int×Int)) (Int×Int)) (Int×Int):=
 (bif decide ((zyb s1.2)≤s1.1)then .ok (IntKind.wrap .i64 (s1.1-(zyb s1.2)),IntKind.wrap .i64 (s1.2+1))else .error (.inr (s1.1,s1.2)))
def ysu (a0:Int) (s1:Int×Int) (s2:Int×Int):Except (Sum ((Int×Int×Int)) (Int×Int)) (Int×Int):=
 (bif decide ((zab s1.2 s2.2)≤s2.1)then .ok (IntKind.wrap .i64 (s2.1-(zab s1.2 s2.2)),IntKind.wrap .i64 (s2.2+1))else .error (.inr (s2.1,s2.2)))
def zh (a0:Int):(Int×Int×Int):=
 (match ynb (y1t a0) (((a0).toNat)+1) (a0,2000)with|.error (.inl e)=>e|.error (.inr s1)=>(match ynb (ysu a0 s1) (((s1.1).toNat)+1) (s1.1,1)with|.error (.inl e)=>e|.error (.inr s2)=>(s1.2,s2.2,IntKind.wrap .i64 (s2.1+1))|.ok _=>default)|.ok _=>default)
namespace N228
theorem DD:DOk Tryz.prog (Go.Ab.DD [(295,dP D_zyb),(296,dP D_zab)]):=ya yvz.e <| ya yiz.e <| yd _
theorem dn:type_of% (And.intro @D_zyb.eq_1 <| @D_zab.eq_1):=by and_intros<;>intros<;>rfl
theorem den (a0:Int) (hp0:0≤a0) (hp1:a0≤99999):Den Tryz.prog 228 [.int .i64 a0] (.tup [.int .i64 ((zh a0).1),.int .i64 ((zh a0).2.1),.int .i64 ((zh a0).2.2)]):=by
 generalize hR:zh a0=r
 unfold zh at hR
 refine di Tryz.func228 Tryz.ntmps228 Tryz.results228 ?_
 intro c hL hc hk
 clear hL
 simp only[pars,Nat.zero_add]
 iterate 2 refine rS ?_
 refine AWP.seq ?_
 refine AWP.block ?_
 generalize hz1:ynb (y1t a0) (((a0).toNat)+1) (a0,2000)=z1 at hR
 refine AWP.whileW (y1t a0) (fun s1=>⟨[(0,.int .i64 s1.1),(5,.int .i64 s1.2),(6,.int .i64 1)],[]⟩) (fun s1=>0≤s1.1∧2000≤s1.2∧s1.2-2000+s1.1≤a0) (fun s1=>(s1.1).toNat) (((a0).toNat)+1) (a0,2000) [] hz1 m0 wt sm ?_
 clear hz1
 intro s1 k1 hW1 hm1 hz1
 simp only[y1t]at hz1
 refine rS ?_
 refine AWP.cond rfl (fun hb => ?_) (fun hb => ?_)
 ·simp only[hb,cond_true]at hz1
  iterate 2 refine rS ?_
  exact⟨_,[],by(have h9:=yqn s1.2;simp only[ob,ln,ol]at *;omega),by(have h9:=yqn s1.2;simp only[ob,ln,ol]at *;omega),hz1,sm⟩
 ·simp only[hb,cond_false]at hz1
  refine AWP.exit ?_
  refine yb ?_
  subst hz1;dsimp only at hR
  refine AWP.seq ?_
  refine AWP.block ?_
  generalize hz2:ynb (ysu a0 (s1.1,s1.2)) (((s1.1).toNat)+1) (s1.1,1)=z2 at hR
  refine AWP.whileW (ysu a0 (s1.1,s1.2)) (fun s2=>⟨[(0,.int .i64 s2.1),(5,.int .i64 s1.2),(6,.int .i64 s2.2)],[]⟩) (fun s2=>0≤s2.1∧s2.1≤99999∧1≤s2.2∧s2.2≤12∧s2.1<ycq s1.2 s2.2) (fun s2=>(s2.1).toNat) (((s1.1).toNat)+1) (s1.1,1) [] hz2 m0 (by(have h9:=yqn s1.2;have h8:=ylo s1.2;simp only[ob,ln,ol]at *;omega)) sm ?_
  clear hz2
  intro s2 k2 hW2 hm2 hz2
  simp only[ysu]at hz2
  refine rS ?_
  refine AWP.cond rfl (fun hb => ?_) (fun hb => ?_)
  ·simp only[hb,cond_true]at hz2
   iterate 2 refine rS ?_
   exact⟨_,[],by(have hbq:=of_decide_eq_true hb;have h9:=yih s1.2 s2.2 s2.1 (by omega) (by omega) (by omega) hbq;have e1:=ymc (n:=s2.1-zab s1.2 s2.2) (by omega) (by omega);have e2:=ymc (n:=s2.2+1) (by omega) (by omega);simp only[e1,e2];omega),by(have hbq:=of_decide_eq_true hb;have h9:=yih s1.2 s2.2 s2.1 (by omega) (by omega) (by omega) hbq;have e1:=ymc (n:=s2.1-zab s1.2 s2.2) (by omega) (by omega);have e2:=ymc (n:=s2.2+1) (by omega) (by omega);simp only[e1,e2];omega),hz2,sm⟩
  ·simp only[hb,cond_false]at hz2
   refine AWP.exit ?_
   refine yb ?_
   subst hz2;dsimp only at hR
   refine rS ?_
   refine AWP.ret ?_
   subst hR
   exact es
end N228
def D_zh : DF
 | [x0]=>some (.tup [.int .i64 ((zh (rdI x0)).1),.int .i64 ((zh (rdI x0)).2.1),.int .i64 ((zh (rdI x0)).2.2)],false,[wI .i64 x0,0≤(rdI x0),(rdI x0)≤99999])
 | _=>none
theorem yb3:OkD Tryz.prog 228 D_zh:=by unfold D_zh;exact dk N228.den
end Go.Ab

namespace Go.Ab
open Go Go.Proofs
theorem yqv {y:Int} (h1:2000≤y) (h2:y≤2273):zcd y=yhb y:=by
 unfold zcd yhb zyg zb
 simp[h1,h2]
theorem yxr {y m:Int} (hy1:2000≤y) (hy2:y≤2273) (h1:1≤m) (h2:m≤12):zab y m=mdD (yhb y) m.toNat:=by
 obtain⟨e1,e2,e3,e4,e5,e6,e7,e8,e9,e10,e11,e12⟩:=yxh y
 rw[yqv hy1 hy2]at e2
 rcases yjf h1 h2 with rfl|rfl|rfl|rfl|rfl|rfl|rfl|rfl|rfl|rfl|rfl|rfl<;>simp only[*]<;>cases yhb y<;>rfl
theorem y03 (a:Int) (h1:0≤a) (h2:a≤99999):∃ y m d,zh a=(y,m,d)∧y≤2273∧y0k a y m d:=by
 have L1 := yig (body := y1t a) (I := fun s => 0 ≤ s.1 ∧ 2000 ≤ s.2 ∧ ybD s.2 + s.1 = a)
  (Q:=fun r=>∃ s:Int×Int,r=.inr s∧0≤s.1∧2000≤s.2∧ybD s.2+s.1=a∧s.1<zyb s.2) (M:=fun s=>s.1.toNat) (by
   rintro⟨d,y⟩ ⟨i1,i2,i3⟩
   simp only[y1t]at i1 i2 i3 ⊢
   have hy:=yqn y
   have hle:=ywl (y:=y) (by omega)
   have hnn:=ypg i2
   by_cases hc:zyb y≤d
   ·have hyd:zyb y=365+(bif yhb y then 1 else 0):=by
     unfold zyb;rw[yqv i2 hle];cases yhb y<;>rfl
    have hn:=yrl y i2
    simp only[hc,decide_true,cond_true]
    rw[ymc (by omega) (by omega),ymc (by omega) (by omega)]
    refine⟨⟨by omega,by omega,by omega⟩,by omega⟩
   ·simp only[hc,decide_false,cond_false]
    exact⟨_,rfl,i1,i2,i3,by show d<zyb y;omega⟩) (a.toNat+1) (a,2000) ⟨h1,by show(2000:Int)≤2000;omega,by simp[ybD]⟩ (by show a.toNat<a.toNat+1;omega)
 obtain⟨r,e1,s,rfl,q1,q2,q3,q4⟩:=L1
 have hle:=ywl (y:=s.2) (by omega)
 have hnn:=ypg q2
 have hyd:=yqn s.2
 have L2 := yig (body := ysu a s) (I := fun t => 0 ≤ t.1 ∧ 1 ≤ t.2 ∧ t.2 ≤ 12 ∧ t.1 < ycq s.2 t.2 ∧ (mbD (yhb s.2) t.2.toNat : Int) + t.1 = s.1)
  (Q:=fun r=>∃ t:Int×Int,r=.inr t∧0≤t.1∧1≤t.2∧t.2≤12∧t.1<zab s.2 t.2∧(mbD (yhb s.2) t.2.toNat:Int)+t.1=s.1) (M:=fun t=>t.1.toNat) (by
   rintro⟨d,m⟩ ⟨i1,i2,i3,i4,i5⟩
   simp only[ysu]at i1 i2 i3 i4 i5 ⊢
   by_cases hc:zab s.2 m≤d
   ·have hs:=yih s.2 m d i2 i3 i4 hc
    have hm:=yxr q2 hle i2 i3
    have hn:=y5v (l:=yhb s.2) i2 hs.1
    simp only[hc,decide_true,cond_true]
    rw[ymc (by omega) (by omega),ymc (by omega) (by omega)]
    refine⟨⟨by omega,by omega,by omega,hs.2.1,by omega⟩,by omega⟩
   ·simp only[hc,decide_false,cond_false]
    exact⟨_,rfl,i1,i2,i3,by show d<zab s.2 m;omega,i5⟩) (s.1.toNat+1) (s.1,1) ⟨q1,by show(1:Int)≤1;omega,by show(1:Int)≤12;omega,by rw[ylo];exact q4,by show(mbD (yhb s.2) 1:Int)+s.1=s.1;rw[ypl];simp⟩ (by show s.1.toNat<s.1.toNat+1;omega)
 obtain⟨r2,e2,t,rfl,p1,p2,p3,p4,p5⟩:=L2
 have hm:=yxr q2 hle p2 p3
 have hw:IntKind.wrap .i64 (t.1+1)=t.1+1:=by
  have:=(yjx (l:=yhb s.2) p2 p3)
  refine ymc (by omega) ?_
  cases hl:yhb s.2<;>simp only[hl,cond_true,cond_false]at * <;> omega
 refine⟨s.2,t.2,t.1+1,?_,hle,q2,p2,p3,by omega,by omega,by omega⟩
 unfold zh
 rw[e1]
 simp only
 rw[e2]
 simp only[hw]
theorem yz2 (a:Int) (h1:0≤a) (h2:a≤99999):2000≤(zh a).1∧(zh a).1≤2273∧1≤(zh a).2.1∧(zh a).2.1≤12∧1≤(zh a).2.2∧(zh a).2.2≤31:=by
 obtain⟨y,m,d,e,hy,h⟩:=y03 a h1 h2
 have hm:=yxs (l:=yhb y) h.2.1 h.2.2.1
 rw[e]
 exact⟨h.1,hy,h.2.1,h.2.2.1,h.2.2.2.1,by show d≤31;have:=h.2.2.2.2.1;omega⟩
end Go.Ab

namespace Go.Ab
open Go Go.Proofs
def zob (a0:Int) (a1:Int):(List UInt8):=
 (zrd [48] (if 0<IntKind.wrap .i64 (a1-((zd a0).length:Int))then IntKind.wrap .i64 (a1-((zd a0).length:Int))else 0))++(zd a0)
namespace N118
theorem DD:DOk Tryz.prog (Go.Ab.DD [(107,dP D_zd),(222,dP D_zrd)]):=ya yjd.e <| ya yu1.e <| yd _
theorem dn:type_of% (And.intro @D_zd.eq_1 <| @D_zrd.eq_1):=by and_intros<;>intros<;>rfl
theorem ol:type_of% (@yqm):=@yqm
theorem gr {p:Prop} (h:p:=by(grind [yvb,yqm]);first|done|fail):p:=h
theorem den (a0:Int) (a1:Int) (hp0 : -1000000000000≤a0) (hp1:a0≤1000000000000) (hp2:0≤a1) (hp3:a1≤4):Den Tryz.prog 118 [.int .i64 a0,.int .i64 a1] (.str (zob a0 a1)):=by
 generalize hR:zob a0 a1=r
 unfold zob at hR
 refine di Tryz.func118 Tryz.ntmps118 Tryz.results118 ?_
 intro c hL hc hk
 clear hL
 simp only[pars,Nat.zero_add]
 have hl0:=yvb a0
 iterate 3 refine rS ?_
 refine AWP.ret ?_
 subst hR
 exact es
end N118
def D_zob : DF
 | [x0,x1]=>some (.str (zob (rdI x0) (rdI x1)),false,[wI .i64 x0,wI .i64 x1,-1000000000000≤(rdI x0),(rdI x0)≤1000000000000,0≤(rdI x1),(rdI x1)≤4])
 | _=>none
theorem y9s:OkD Tryz.prog 118 D_zob:=by unfold D_zob;exact dk N118.den
end Go.Ab

namespace Go.Ab
open Go Go.Proofs
theorem ybm (a:Int) (h1:0≤a) (h2:a≤1000):(zob a 2).length≤2000:=by
 have hl:=yvb a
 unfold zob
 rw[List.length_append,yqm,IntKind.wrap_i64]
 simp only[List.length_cons,List.length_nil,Nat.zero_add,Nat.one_mul]
 split<;>omega
end Go.Ab

namespace Go.Ab
open Go Go.Proofs
def zmc (a0:Int):Bool:=
 (zb a0 0 99999)
namespace N227
theorem DD:DOk Tryz.prog (Go.Ab.DD [(181,dP D_zb)]):=ya yfc.e <| yd _
theorem dn:type_of% (@D_zb.eq_1):=by and_intros<;>intros<;>rfl
theorem ol:type_of% (@zb.eq_1):=@zb.eq_1
theorem den (a0:Int)  : Den Tryz.prog 227 [.int .i64 a0] (.bool (zmc a0)):=by
 generalize hR:zmc a0=r
 unfold zmc at hR
 refine di Tryz.func227 Tryz.ntmps227 Tryz.results227 ?_
 intro c hL hc hk
 clear hL
 simp only[pars,Nat.zero_add]
 iterate 2 refine rS ?_
 refine AWP.ret ?_
 subst hR
 exact es
end N227
def D_zmc : DF
 | [x0]=>some (.bool (zmc (rdI x0)),false,[wI .i64 x0])
 | _=>none
theorem yjl:OkD Tryz.prog 227 D_zmc:=by unfold D_zmc;exact dk N227.den
end Go.Ab

namespace Go.Ab
open Go Go.Proofs
def zbb (a0:Int):(List UInt8):=
 (bif (!(zmc a0))then[]else((((zd ((zh a0).1))++[45])++(zob ((zh a0).2.1) 2))++[45])++(zob ((zh a0).2.2) 2))
namespace N127
theorem DD:DOk Tryz.prog (Go.Ab.DD [(107,dP D_zd),(118,dP D_zob),(227,dP D_zmc),(228,dP D_zh)]):=ya yjd.e <| ya y9s.e <| ya yjl.e <| ya yb3.e <| yd _
theorem dn:type_of% (And.intro @D_zd.eq_1 <| And.intro @D_zob.eq_1 <| And.intro @D_zmc.eq_1 <| @D_zh.eq_1):=by and_intros<;>intros<;>rfl
theorem gr {p:Prop} (h:p:=by(grind [yvb]);first|done|fail):p:=h
theorem o0 {p:Prop} (h:p:=by(first|(have hb9:0≤a0∧a0≤99999:=(by have hb8:=hb;simp[zmc,zb]at hb8;omega);have hr:=yz2 a0 hb9.1 hb9.2;have l1:=yvb (zh a0).1;have l2:=ybm (zh a0).2.1 (by omega) (by omega);have l3:=ybm (zh a0).2.2 (by omega) (by omega);(try simp only[List.length_append,List.length_cons,List.length_nil]);omega));first|done|fail):p:=h
theorem den (a0:Int)  : Den Tryz.prog 127 [.int .i64 a0] (.str (zbb a0)):=by
 generalize hR:zbb a0=r
 unfold zbb at hR
 refine di Tryz.func127 Tryz.ntmps127 Tryz.results127 ?_
 intro c hL hc hk
 clear hL
 simp only[pars,Nat.zero_add]
 iterate 2 refine rS ?_
 refine AWP.cond rfl (fun hb => ?_) (fun hb => ?_)
 ·replace hR:=ct hR
  refine rS ?_
  refine AWP.ret ?_
  subst hR
  exact es
 ·replace hR:=cf hR
  iterate 2 refine rS ?_
  refine AWP.ret ?_
  subst hR
  exact es
end N127
def D_zbb : DF
 | [x0]=>some (.str (zbb (rdI x0)),false,[wI .i64 x0])
 | _=>none
theorem yur:OkD Tryz.prog 127 D_zbb:=by unfold D_zbb;exact dk N127.den
end Go.Ab


namespace Go.Ab
open Go Go.Proofs
theorem ybs (k:Int) (l:List (List UInt8)) (h:0≤k) (h2:k<(l.length:Int)):zu k l=l.getD k.toNat default:=by
 unfold zu zgf
 rw[decide_eq_true h,decide_eq_true h2]
 rfl
end Go.Ab
