/- A part of a proof: walks of functions and lemmas of our own. No conditions. -/
import Derived.Test.YthadgghdkkapaaaGreatDoorPAl
import Derived.Test.YthadgghdkkapaaaGreatDoorPAp
import Derived.Test.YthadgghdkkapaaaGreatDoorPAn
import Derived.Test.YthadgghdkkapaaaGreatDoorPAi
import Derived.Test.YthadgghdkkapaaaGreatDoorPAk
set_option linter.unusedSectionVars false
set_option linter.unusedVariables false
set_option linter.unusedSimpArgs false
set_option maxHeartbeats 1000000
namespace Go.Ab
open Go Go.Proofs
def yes (a0:Character) (i1:Nat) (s1:List Int):Except ((List Int)) (List Int):=
 (bif decide (0<(i1:Int))then(bif ((((zrb a0.Letter).getD i1 0).toNat:Int) == 45)then .ok ((s1++([(zv a0.Kind).2.1]:List Int))++([IntKind.wrap .i64 (3 * ((zv a0.Kind).1))]:List Int))else .ok ((s1++([(zv a0.Kind).2.1]:List Int))++([(zv a0.Kind).1]:List Int)))else(bif ((((zrb a0.Letter).getD i1 0).toNat:Int) == 45)then .ok (s1++([IntKind.wrap .i64 (3 * ((zv a0.Kind).1))]:List Int))else .ok (s1++([(zv a0.Kind).1]:List Int))))
def ymr (a0:Character) (i2:Nat) (s2:List Int) (i3:Nat) (s3:List Int):Except ((List Int)) (List Int):=
 (bif decide (0<(i3:Int))then .ok ((s3++([(zv a0.Kind).2.1]:List Int))++([(zv a0.Kind).1]:List Int))else(bif decide (0<(i2:Int))then .ok ((s3++([IntKind.wrap .i64 (((zv a0.Kind).2.1)+20)]:List Int))++([(zv a0.Kind).1]:List Int))else .ok (s3++([(zv a0.Kind).1]:List Int))))
def y4r (a0:Character) (i2:Nat) (s2:List Int):Except ((List Int)) (List Int):=
 (match yh (ymr a0 i2 s2) (((([1]:List Int).getD i2 default)).toNat-0) 0 s2 with|.error e=>.error e|.ok s3=>.ok s3)
def yhr (a0:Character) (i4:Nat) (s4:List Int) (i5:Nat) (s5:List Int):Except ((List Int)) (List Int):=
 (bif decide (0<(i5:Int))then .ok ((s5++([(zv a0.Kind).2.1]:List Int))++([(zv a0.Kind).1]:List Int))else(bif decide (0<(i4:Int))then .ok ((s5++([IntKind.wrap .i64 (((zv a0.Kind).2.1)+20)]:List Int))++([(zv a0.Kind).1]:List Int))else .ok (s5++([(zv a0.Kind).1]:List Int))))
def y5r (a0:Character) (i4:Nat) (s4:List Int):Except ((List Int)) (List Int):=
 (match yh (yhr a0 i4 s4) (((a0.Group.getD i4 default)).toNat-0) 0 s4 with|.error e=>.error e|.ok s5=>.ok s5)
def zu (a0:Character):(List Int):=
 (bif (a0.Kind == 8)then(match yh (yes a0) ((zrb a0.Letter).length-0) 0 ([]:List Int)with|.error e=>e|.ok s1=>s1)else(bif ((a0.Group.length:Int) == 0)then(match yh (y4r a0) (1-0) 0 ([]:List Int)with|.error e=>e|.ok s2=>(bif (a0.Letter != [])then s2++([(zv a0.Kind).2.1,20]:List Int)else s2))else(match yh (y5r a0) (a0.Group.length-0) 0 ([]:List Int)with|.error e=>e|.ok s4=>(bif (a0.Letter != [])then s4++([(zv a0.Kind).2.1,20]:List Int)else s4))))
namespace N192
theorem DD:DOk Tryz.prog (Go.Ab.DD [(191,dP D_zv),(237,dP D_zrb)]):=ya ynt.e <| ya ysq.e <| yb _
theorem dn:type_of% (And.intro @D_zv.eq_1 <| @D_zrb.eq_1):=by and_intros<;>intros<;>rfl
theorem o2 {p:Prop} (h:p:=by(first|(and_intros<;>first|decide|omega|(simp;(first|done|fail))|(rw[IntKind.wrap_i64];have:=hg9 i4;omega)|(rw[IntKind.wrap_i64];have:=hg1 i2;omega)|(rw[IntKind.wrap_i64];omega)|(intro i hi;exact ybl _ _ i hi)|(intro i hi;exact yhn _ _ _ i hi)));first|done|fail):p:=h
theorem o3 {p:Prop} (h:p:=by(first|(refine⟨⟨Nat.le_refl _,fun i hi=>yqm _ _ _ i hi⟩,.inl fun i hi=>by rw[ych _ _ _ i hi];simp[NoBorL,NoBor],by simp,fun i hi=>by rw[ych _ _ _ i hi];exact y9 _⟩));first|done|fail):p:=h
theorem lx {p:Prop} (h:p:=by(exact lxx);first|done|fail):p:=h
set_option maxHeartbeats 1000000 in
set_option maxRecDepth 20000 in
theorem den (a0:Character) (hb0:bdCharacter a0) (hp0:a0.Group.length<=4) (hp1:∀ v∈a0.Group,v<=9):Den Tryz.prog 192 [.agg (ym a0)] (ownL 2 1 yq (zu a0)):=by
 generalize hR:zu a0=r;unfold zu at hR;refine di Tryz.func192 Tryz.ntmps192 Tryz.results192 ?_;intro c hL hc hk;obtain⟨hL0,_⟩:=hL;have hw0:bwCharacter a0:=yv a0 hL0;clear hL0;simp only[pars,Nat.zero_add];have hg9:∀ i:Nat,a0.Group.getD i default<=9:=fun i=>ylk hp1 i
 have hs9:=y6s a0.Letter;have hs8:=yio a0.Letter;have hg1:∀ i:Nat,([1]:List Int).getD i default<=9:=fun i=>ylk (by simp) i
 iterate 3 refine rS ?_
 refine AWP.cond rfl (fun hb => ?_) (fun hb => ?_)
 ·replace hR:=ct hR
  iterate 2 refine rS ?_
  refine AWP.block ?_;refine AWP.lensT 27 rfl (fun hLn1 => ?_);generalize hz1:yh (yes a0) ((zrb a0.Letter).length-0) 0 ([]:List Int)=z1 at hR;refine AWP.range (yes a0) (fun i1 s1=>⟨[(3,.int .i64 ((zv a0.Kind).1)),(4,.int .i64 ((zv a0.Kind).2.1)),(6,.ref 0 1 0 s1.length),(28,.ptr 1 0)],[.arr 2 1 s1.length (fun j=>yq (s1.getD j default)),.it (zrb a0.Letter) i1 (decide (i1<(zrb a0.Letter).length))]⟩) (fun i1 s1=>s1.length<=([]:List Int).length+2 * i1/\s1.length<=2 * i1) ((zrb a0.Letter).length) 0 ([]:List Int) [1,2] hz1 ot wt sm ?_;clear hz1;intro i1 s1 hi1 hW1 hz1;refine AWP.seq ?_;by_cases hlt1:i1<(zrb a0.Letter).length
  ·rw[yn hlt1]at hz1;simp only[yes]at hz1
   rw[decide_eq_true hlt1];refine rS ?_;refine AWP.seq ?_;refine AWP.cond rfl (fun hb => ?_) (fun hb=>nomatch hb);iterate 2 refine rS ?_
   refine AWP.cond rfl (fun hb => ?_) (fun hb => ?_)
   ·simp only[hb,cond_true]at hz1
    iterate 2 refine rS ?_
    refine AWP.cond rfl (fun hb => ?_) (fun hb => ?_)
    ·simp only[hb,cond_true]at hz1
     refine rS ?_;exact⟨_,[5,1],hlt1,wt,hz1,sm⟩
    ·simp only[hb,cond_false]at hz1
     refine rS ?_;exact⟨_,[5,1],hlt1,wt,hz1,sm⟩
   ·simp only[hb,cond_false]at hz1
    refine rS ?_;refine AWP.cond rfl (fun hb => ?_) (fun hb => ?_)
    ·simp only[hb,cond_true]at hz1
     refine rS ?_;exact⟨_,[3,1],hlt1,wt,hz1,sm⟩
    ·simp only[hb,cond_false]at hz1
     refine rS ?_;exact⟨_,[3,1],hlt1,wt,hz1,sm⟩
  ·obtain rfl:i1=(zrb a0.Letter).length:=by omega
   rw[yp (Nat.le_refl _)]at hz1;subst hz1;dsimp only at hR;simp only[Nat.lt_irrefl,decide_false];refine rS ?_;refine AWP.seq ?_;refine AWP.cond rfl (fun hb=>nomatch hb) (fun hb => ?_);refine AWP.exit ?_;refine yc ?_;refine rS ?_;refine AWP.ret ?_;subst hR;exact es
 ·replace hR:=cf hR
  iterate 2 refine rS ?_
  refine AWP.cond rfl (fun hb => ?_) (fun hb => ?_)
  ·replace hR:=ct hR
   iterate 3 refine rS ?_
   refine AWP.block ?_;generalize hz2:yh (y4r a0) (1-0) 0 ([]:List Int)=z2 at hR;refine AWP.range (y4r a0) (fun i2 s2=>⟨[(1,.ptr 0 0),(3,.int .i64 ((zv a0.Kind).1)),(4,.int .i64 ((zv a0.Kind).2.1)),(10,.ref 1 1 0 s2.length),(58,.ref 2 1 0 1),(59,.int .i64 1),(60,.int .i64 (i2:Int))],[.box [.int .i64 a0.Kind,encL 1 yq a0.Group,.str a0.Letter,.str a0.Colors,.int .i64 a0.Period],.arr 2 1 s2.length (fun j=>yq (s2.getD j default)),.arr 2 1 ([1]:List Int).length (fun j=>yq (([1]:List Int).getD j default))]⟩) (fun i2 s2=>s2.length<=18 * i2) (1) 0 ([]:List Int) [0,2,1] hz2 ot wt sm ?_;clear hz2;intro i2 s2 hi2 hW2 hz2;refine rS ?_;refine AWP.seq ?_;refine AWP.cond rfl (fun hb => ?_) (fun hb => ?_)
   ·have hlt2:i2<1:=ot
    rw[yn hlt2]at hz2;simp only[y4r]at hz2;iterate 2 refine rS ?_
    refine AWP.block ?_;generalize hz3:yh (ymr a0 i2 s2) (((([1]:List Int).getD i2 default)).toNat-0) 0 s2=z3 at hz2;refine AWP.range (ymr a0 i2 s2) (fun i3 s3=>⟨[(1,.ptr 0 0),(3,.int .i64 ((zv a0.Kind).1)),(4,.int .i64 ((zv a0.Kind).2.1)),(10,.ref 1 1 0 s3.length),(11,.int .i64 (i2:Int)),(58,.ref 2 1 0 1),(59,.int .i64 1),(60,.int .i64 (i2:Int)),(65,.int .i64 (([1]:List Int).getD i2 default)),(66,.int .i64 (i3:Int))],[.box [.int .i64 a0.Kind,encL 1 yq a0.Group,.str a0.Letter,.str a0.Colors,.int .i64 a0.Period],.arr 2 1 s3.length (fun j=>yq (s3.getD j default)),.arr 2 1 ([1]:List Int).length (fun j=>yq (([1]:List Int).getD j default))]⟩) (fun i3 s3=>s3.length<=s2.length+2 * i3/\s3.length<=18 * i2+2 * i3) (((([1]:List Int).getD i2 default)).toNat) 0 s2 [0,1,2] hz3 ot wt sm ?_;clear hz3;intro i3 s3 hi3 hW3 hz3;refine rS ?_;refine AWP.seq ?_;refine AWP.cond rfl (fun hb => ?_) (fun hb => ?_)
    ·have hlt3:i3<((([1]:List Int).getD i2 default)).toNat:=ot
     rw[yn hlt3]at hz3;simp only[ymr]at hz3;iterate 2 refine rS ?_
     refine AWP.cond rfl (fun hb => ?_) (fun hb => ?_)
     ·simp only[hb,cond_true]at hz3
      iterate 3 refine rS ?_
      exact⟨_,[0,6,2],hlt3,wt,hz3,sm⟩
     ·simp only[hb,cond_false]at hz3
      refine rS ?_;refine AWP.cond rfl (fun hb => ?_) (fun hb => ?_)
      ·simp only[hb,cond_true]at hz3
       iterate 3 refine rS ?_
       exact⟨_,[0,6,2],hlt3,wt,hz3,sm⟩
      ·simp only[hb,cond_false]at hz3
       iterate 2 refine rS ?_
       exact⟨_,[0,4,2],hlt3,wt,hz3,sm⟩
    ·obtain rfl:i3=((([1]:List Int).getD i2 default)).toNat:=ot
     rw[yp (Nat.le_refl _)]at hz3;subst hz3;dsimp only at hz2;refine AWP.exit ?_;refine yc ?_;refine rS ?_;exact⟨_,[0,1,2],hlt2,by(have h9:=hg1 i2;omega),hz2,sm⟩
   ·obtain rfl:i2=1:=ot
    rw[yp (Nat.le_refl _)]at hz2;subst hz2;dsimp only at hR;refine AWP.exit ?_;refine yc ?_;refine rS ?_;refine AWP.cond rfl (fun hb => ?_) (fun hb => ?_)
    ·replace hR:=ct hR
     iterate 2 refine rS ?_
     refine AWP.ret ?_;subst hR;exact es
    ·replace hR:=cf hR
     refine rS ?_;refine AWP.ret ?_;subst hR;exact es
  ·replace hR:=cf hR
   iterate 2 refine rS ?_
   refine AWP.block ?_;refine AWP.lensS 9 rfl (fun hLn4 => ?_);generalize hz4:yh (y5r a0) (a0.Group.length-0) 0 ([]:List Int)=z4 at hR;refine AWP.range (y5r a0) (fun i4 s4=>⟨[(1,.ptr 0 0),(3,.int .i64 ((zv a0.Kind).1)),(4,.int .i64 ((zv a0.Kind).2.1)),(10,.ref 1 1 0 s4.length),(58,encL 1 yq a0.Group),(59,.int .i64 (a0.Group.length:Int)),(60,.int .i64 (i4:Int))],[.box [.int .i64 a0.Kind,encL 1 yq a0.Group,.str a0.Letter,.str a0.Colors,.int .i64 a0.Period],.arr 2 1 s4.length (fun j=>yq (s4.getD j default))]⟩) (fun i4 s4=>s4.length<=18 * i4) (a0.Group.length) 0 ([]:List Int) [0,1] hz4 ot wt sm ?_;clear hz4;intro i4 s4 hi4 hW4 hz4;refine rS ?_;refine AWP.seq ?_;refine AWP.cond rfl (fun hb => ?_) (fun hb => ?_)
   ·have hlt4:i4<a0.Group.length:=ot
    rw[yn hlt4]at hz4;simp only[y5r]at hz4;iterate 2 refine rS ?_
    refine AWP.block ?_;generalize hz5:yh (yhr a0 i4 s4) (((a0.Group.getD i4 default)).toNat-0) 0 s4=z5 at hz4;refine AWP.range (yhr a0 i4 s4) (fun i5 s5=>⟨[(1,.ptr 0 0),(3,.int .i64 ((zv a0.Kind).1)),(4,.int .i64 ((zv a0.Kind).2.1)),(10,.ref 1 1 0 s5.length),(11,.int .i64 (i4:Int)),(58,encL 1 yq a0.Group),(59,.int .i64 (a0.Group.length:Int)),(60,.int .i64 (i4:Int)),(65,.int .i64 (a0.Group.getD i4 default)),(66,.int .i64 (i5:Int))],[.box [.int .i64 a0.Kind,encL 1 yq a0.Group,.str a0.Letter,.str a0.Colors,.int .i64 a0.Period],.arr 2 1 s5.length (fun j=>yq (s5.getD j default))]⟩) (fun i5 s5=>s5.length<=s4.length+2 * i5/\s5.length<=18 * i4+2 * i5) (((a0.Group.getD i4 default)).toNat) 0 s4 [0,1] hz5 ot wt sm ?_;clear hz5;intro i5 s5 hi5 hW5 hz5;refine rS ?_;refine AWP.seq ?_;refine AWP.cond rfl (fun hb => ?_) (fun hb => ?_)
    ·have hlt5:i5<((a0.Group.getD i4 default)).toNat:=ot
     rw[yn hlt5]at hz5;simp only[yhr]at hz5;iterate 2 refine rS ?_
     refine AWP.cond rfl (fun hb => ?_) (fun hb => ?_)
     ·simp only[hb,cond_true]at hz5
      iterate 3 refine rS ?_
      exact⟨_,[0,5],hlt5,wt,hz5,sm⟩
     ·simp only[hb,cond_false]at hz5
      refine rS ?_;refine AWP.cond rfl (fun hb => ?_) (fun hb => ?_)
      ·simp only[hb,cond_true]at hz5
       iterate 3 refine rS ?_
       exact⟨_,[0,5],hlt5,wt,hz5,sm⟩
      ·simp only[hb,cond_false]at hz5
       iterate 2 refine rS ?_
       exact⟨_,[0,3],hlt5,wt,hz5,sm⟩
    ·obtain rfl:i5=((a0.Group.getD i4 default)).toNat:=ot
     rw[yp (Nat.le_refl _)]at hz5;subst hz5;dsimp only at hz4;refine AWP.exit ?_;refine yc ?_;refine rS ?_;exact⟨_,[0,1],hlt4,by(have h9:=hg9 i4;omega),hz4,sm⟩
   ·obtain rfl:i4=a0.Group.length:=ot
    rw[yp (Nat.le_refl _)]at hz4;subst hz4;dsimp only at hR;refine AWP.exit ?_;refine yc ?_;refine rS ?_;refine AWP.cond rfl (fun hb => ?_) (fun hb => ?_)
    ·replace hR:=ct hR
     iterate 2 refine rS ?_
     refine AWP.ret ?_;subst hR;exact es
    ·replace hR:=cf hR
     refine rS ?_;refine AWP.ret ?_;subst hR;exact es
end N192
def D_zu : DF
 | [x0]=>some (ownL 2 1 yq (zu (rdG ye x0)),false,[wG ym ye x0,bdCharacter (rdG ye x0),(rdG ye x0).Group.length<=4,∀ v∈(rdG ye x0).Group,v<=9])
 | _=>none
theorem y6z:OkD Tryz.prog 192 D_zu:=by unfold D_zu;exact dk N192.den
def yfq (a0:(List Int)) (i1:Nat) (s1:Int):Except (Int) (Int):=
 .ok (IntKind.wrap .i64 (s1+(a0.getD i1 default)))
def zvd (a0:(List Int)):Int:=
 (match yh (yfq a0) (a0.length-0) 0 0 with|.error e=>e|.ok s1=>s1)
namespace N193
theorem DD:DOk Tryz.prog (Go.Ab.DD []):=yb _
theorem den (a0:(List Int))  : Den Tryz.prog 193 [encL 1 yq a0] (.int .i64 (zvd a0)):=by
 generalize hR:zvd a0=r;unfold zvd at hR;refine di Tryz.func193 Tryz.ntmps193 Tryz.results193 ?_;intro c hL hc hk;obtain⟨hL0,_⟩:=hL;have hw0:a0.length<9223372036854775808:=Nat.lt_succ_of_le (yf hL0).1;clear hL0;simp only[pars,Nat.zero_add];iterate 3 refine rS ?_
 refine AWP.block ?_;generalize hz1:yh (yfq a0) (a0.length-0) 0 0=z1 at hR;refine AWP.range (yfq a0) (fun i1 s1=>⟨[(3,.int .i64 s1),(6,encL 1 yq a0),(7,.int .i64 (a0.length:Int)),(8,.int .i64 (i1:Int))],[]⟩) (fun i1 s1=>True) (a0.length) 0 0 [] hz1 ot wt sm ?_;clear hz1;intro i1 s1 hi1 hW1 hz1;refine rS ?_;refine AWP.seq ?_;refine AWP.cond rfl (fun hb => ?_) (fun hb => ?_)
 ·have hlt1:i1<a0.length:=ot
  rw[yn hlt1]at hz1;simp only[yfq]at hz1;iterate 3 refine rS ?_
  exact⟨_,[],hlt1,wt,hz1,sm⟩
 ·obtain rfl:i1=a0.length:=ot
  rw[yp (Nat.le_refl _)]at hz1;subst hz1;dsimp only at hR;refine AWP.exit ?_;refine yc ?_;refine rS ?_;refine AWP.ret ?_;subst hR;exact es
end N193
def D_zvd : DF
 | [x0]=>some (.int .i64 (zvd (rdL ydb x0)),false,[wL 1 yq ydb x0])
 | _=>none
theorem yrv:OkD Tryz.prog 193 D_zvd:=by unfold D_zvd;exact dk N193.den
def zaf (a0:Character):Int:=
 (bif (zrd a0)then 0 else(bif (a0.Kind == 3)then 20 else(bif decide (1<(a0.Group.length:Int))then IntKind.wrap .i64 ((zvd (zu a0))+(IntKind.wrap .i64 (((zv a0.Kind).2.2)+20)))else IntKind.wrap .i64 ((zvd (zu a0))+((zv a0.Kind).2.2)))))
namespace N180
theorem DD:DOk Tryz.prog (Go.Ab.DD [(179,dP D_zrd),(191,dP D_zv),(192,dP D_zu),(193,dP D_zvd)]):=ya y3q.e <| ya ynt.e <| ya y6z.e <| ya yrv.e <| yb _
theorem dn:type_of% (And.intro @D_zrd.eq_1 <| And.intro @D_zv.eq_1 <| And.intro @D_zu.eq_1 <| @D_zvd.eq_1):=by and_intros<;>intros<;>rfl
theorem den (a0:Character) (hb0:bdCharacter a0) (hp0:a0.Group.length<=4) (hp1:∀ v∈a0.Group,v<=9):Den Tryz.prog 180 [.agg (ym a0)] (.int .i64 (zaf a0)):=by
 generalize hR:zaf a0=r;unfold zaf at hR;refine di Tryz.func180 Tryz.ntmps180 Tryz.results180 ?_;intro c hL hc hk;obtain⟨hL0,_⟩:=hL;have hw0:bwCharacter a0:=yv a0 hL0;clear hL0;simp only[pars,Nat.zero_add];iterate 2 refine rS ?_
 refine AWP.cond rfl (fun hb => ?_) (fun hb => ?_)
 ·replace hR:=ct hR
  refine rS ?_;refine AWP.ret ?_;subst hR;exact es
 ·replace hR:=cf hR
  refine rS ?_;refine AWP.cond rfl (fun hb => ?_) (fun hb => ?_)
  ·replace hR:=ct hR
   refine rS ?_;refine AWP.ret ?_;subst hR;exact es
  ·replace hR:=cf hR
   iterate 2 refine rS ?_
   refine AWP.cond rfl (fun hb => ?_) (fun hb => ?_)
   ·replace hR:=ct hR
    iterate 2 refine rS ?_
    refine AWP.ret ?_;subst hR;exact es
   ·replace hR:=cf hR
    refine rS ?_;refine AWP.ret ?_;subst hR;exact es
end N180
def D_zaf : DF
 | [x0]=>some (.int .i64 (zaf (rdG ye x0)),false,[wG ym ye x0,bdCharacter (rdG ye x0),(rdG ye x0).Group.length<=4,∀ v∈(rdG ye x0).Group,v<=9])
 | _=>none
theorem ymw:OkD Tryz.prog 180 D_zaf:=by unfold D_zaf;exact dk N180.den
def zbf (a0:(List UInt8)):Bool:=
 (((a0.length:Int) == 1) && (znb [87,82,71,89] a0))
namespace N239
theorem DD:DOk Tryz.prog (Go.Ab.DD [(131,dP D_znb)]):=ya yop.e <| yb _
theorem dn:type_of% (@D_znb.eq_1):=by and_intros<;>intros<;>rfl
theorem den (a0:(List UInt8))  : Den Tryz.prog 239 [.str a0] (.bool (zbf a0)):=by
 generalize hR:zbf a0=r;unfold zbf at hR;refine di Tryz.func239 Tryz.ntmps239 Tryz.results239 ?_;intro c hL hc hk;obtain⟨hL0,_⟩:=hL;have hw0:a0.length<9223372036854775808:=Nat.lt_succ_of_le hL0;clear hL0;simp only[pars,Nat.zero_add];iterate 2 refine rS ?_
 refine AWP.ret ?_;subst hR;exact es
end N239
def D_zbf : DF
 | [x0]=>some (.bool (zbf (rdS x0)),false,[wS x0])
 | _=>none
theorem y9u:OkD Tryz.prog 239 D_zbf:=by unfold D_zbf;exact dk N239.den
def zcf (a0:Sector):Bool:=
 (((zzd a0.From) && (zzd a0.To)) && (zbf a0.Color))
namespace N181
theorem DD:DOk Tryz.prog (Go.Ab.DD [(151,dP D_zzd),(239,dP D_zbf)]):=ya ylq.e <| ya y9u.e <| yb _
theorem dn:type_of% (And.intro @D_zzd.eq_1 <| @D_zbf.eq_1):=by and_intros<;>intros<;>rfl
theorem den (a0:Sector)  : Den Tryz.prog 181 [.agg (yw a0)] (.bool (zcf a0)):=by
 generalize hR:zcf a0=r;unfold zcf at hR;refine di Tryz.func181 Tryz.ntmps181 Tryz.results181 ?_;intro c hL hc hk;obtain⟨hL0,_⟩:=hL;have hw0:bwSector a0:=yfb a0 hL0;clear hL0;simp only[pars,Nat.zero_add];iterate 2 refine rS ?_
 refine AWP.ret ?_;subst hR;exact es
end N181
def D_zcf : DF
 | [x0]=>some (.bool (zcf (rdG y8 x0)),false,[wG yw y8 x0])
 | _=>none
theorem ydv:OkD Tryz.prog 181 D_zcf:=by unfold D_zcf;exact dk N181.den
def zae (a0:Int) (a1:Int):Int:=
 (IntKind.wrap .i64 ((a0.tmod a1)+a1)).tmod a1
namespace N240
theorem DD:DOk Tryz.prog (Go.Ab.DD []):=yb _
theorem den (a0:Int) (a1:Int) (hp0:0<a1):Den Tryz.prog 240 [.int .i64 a0,.int .i64 a1] (.int .i64 (zae a0 a1)):=by
 generalize hR:zae a0 a1=r;unfold zae at hR;refine di Tryz.func240 Tryz.ntmps240 Tryz.results240 ?_;intro c hL hc hk;clear hL;simp only[pars,Nat.zero_add];iterate 2 refine rS ?_
 refine AWP.ret ?_;subst hR;exact es
end N240
def D_zae : DF
 | [x0,x1]=>some (.int .i64 (zae (rdI x0) (rdI x1)),false,[wI .i64 x0,wI .i64 x1,0<(rdI x1)])
 | _=>none
theorem y1o:OkD Tryz.prog 240 D_zae:=by unfold D_zae;exact dk N240.den
def zed (a0:Sector):Int:=
 IntKind.wrap .i64 ((zae (IntKind.wrap .i64 ((IntKind.wrap .i64 (a0.To-a0.From))-1)) 360)+1)
namespace N183
theorem DD:DOk Tryz.prog (Go.Ab.DD [(240,dP D_zae)]):=ya y1o.e <| yb _
theorem dn:type_of% (@D_zae.eq_1):=by and_intros<;>intros<;>rfl
theorem den (a0:Sector)  : Den Tryz.prog 183 [.agg (yw a0)] (.int .i64 (zed a0)):=by
 generalize hR:zed a0=r;unfold zed at hR;refine di Tryz.func183 Tryz.ntmps183 Tryz.results183 ?_;intro c hL hc hk;obtain⟨hL0,_⟩:=hL;have hw0:bwSector a0:=yfb a0 hL0;clear hL0;simp only[pars,Nat.zero_add];iterate 2 refine rS ?_
 refine AWP.ret ?_;subst hR;exact es
end N183
def D_zed : DF
 | [x0]=>some (.int .i64 (zed (rdG y8 x0)),false,[wG yw y8 x0])
 | _=>none
theorem y2p:OkD Tryz.prog 183 D_zed:=by unfold D_zed;exact dk N183.den
def zme (a0:Sector) (a1:Int):Bool:=
 decide ((zae (IntKind.wrap .i64 (a1-a0.From)) 360)<(zed a0))
namespace N182
theorem DD:DOk Tryz.prog (Go.Ab.DD [(183,dP D_zed),(240,dP D_zae)]):=ya y2p.e <| ya y1o.e <| yb _
theorem dn:type_of% (And.intro @D_zed.eq_1 <| @D_zae.eq_1):=by and_intros<;>intros<;>rfl
theorem den (a0:Sector) (a1:Int)  : Den Tryz.prog 182 [.agg (yw a0),.int .i64 a1] (.bool (zme a0 a1)):=by
 generalize hR:zme a0 a1=r;unfold zme at hR;refine di Tryz.func182 Tryz.ntmps182 Tryz.results182 ?_;intro c hL hc hk;obtain⟨hL0,hL1,_⟩:=hL;have hw0:bwSector a0:=yfb a0 hL0;clear hL0 hL1;simp only[pars,Nat.zero_add];refine rS ?_;refine rD 6 ?_;refine AWP.ret ?_;subst hR;exact es
end N182
def D_zme : DF
 | [x0,x1]=>some (.bool (zme (rdG y8 x0) (rdI x1)),false,[wG yw y8 x0,wI .i64 x1])
 | _=>none
theorem y1u:OkD Tryz.prog 182 D_zme:=by unfold D_zme;exact dk N182.den
def yum (a0:(List Sector)) (i1:Nat) (s1:Int) (i2:Nat) (s2:Unit):Except (Bool) (Unit):=
 (bif (((i2:Int) != (i1:Int)) && (zme (a0.getD i1 default) ((a0.getD i2 default).From)))then .error false else .ok ())
def ynj (a0:(List Sector)) (i1:Nat) (s1:Int):Except (Bool) (Int):=
 (bif ((!(zcf (a0.getD i1 default))) || (decide (0<(i1:Int)) && decide (((a0.getD i1 default).From)<=((a0.getD ((IntKind.wrap .i64 ((i1:Int)-1)).toNat) default).From))))then .error false else(match yh (yum a0 i1 s1) (a0.length-0) 0 ()with|.error e=>.error e|.ok s2=>.ok (IntKind.wrap .i64 (s1+(zed (a0.getD i1 default))))))
def zec (a0:(List Sector)):Bool:=
 (match yh (ynj a0) (a0.length-0) 0 0 with|.error e=>e|.ok s1=>((zzb (a0.length:Int) 12) && decide (s1<=360)))
namespace N129
theorem DD:DOk Tryz.prog (Go.Ab.DD [(112,dP D_zzb),(181,dP D_zcf),(182,dP D_zme),(183,dP D_zed)]):=ya y6g.e <| ya ydv.e <| ya y1u.e <| ya y2p.e <| yb _
theorem dn:type_of% (And.intro @D_zzb.eq_1 <| And.intro @D_zcf.eq_1 <| And.intro @D_zme.eq_1 <| @D_zed.eq_1):=by and_intros<;>intros<;>rfl
theorem den (a0:(List Sector))  : Den Tryz.prog 129 [encL 3 yw a0] (.bool (zec a0)):=by
 generalize hR:zec a0=r;unfold zec at hR;refine di Tryz.func129 Tryz.ntmps129 Tryz.results129 ?_;intro c hL hc hk;obtain⟨hL0,_⟩:=hL;have hw0:a0.length<9223372036854775808:=Nat.lt_succ_of_le (yf hL0).1;have hw1:∀ v∈a0,bwSector v:=fun v hv=>yfb v ((yf hL0).2 v hv)
 clear hL0;simp only[pars,Nat.zero_add];iterate 3 refine rS ?_
 refine AWP.block ?_;generalize hz1:yh (ynj a0) (a0.length-0) 0 0=z1 at hR;refine AWP.range (ynj a0) (fun i1 s1=>⟨[(0,encL 3 yw a0),(3,.int .i64 s1),(8,encL 3 yw a0),(9,.int .i64 (a0.length:Int)),(10,.int .i64 (i1:Int))],[]⟩) (fun i1 s1=>True) (a0.length) 0 0 [] hz1 ot wt sm ?_;clear hz1;intro i1 s1 hi1 hW1 hz1;refine rS ?_;refine AWP.seq ?_;refine AWP.cond rfl (fun hb => ?_) (fun hb => ?_)
 ·have hlt1:i1<a0.length:=ot
  rw[yn hlt1]at hz1;simp only[ynj]at hz1;refine rS ?_;refine rD 18 ?_;refine AWP.cond rfl (fun hb => ?_) (fun hb => ?_)
  ·simp only[hb,cond_true]at hz1
   refine rS ?_;refine AWP.ret ?_;subst hz1;dsimp only at hR;subst hR;exact es
  ·simp only[hb,cond_false]at hz1
   refine rS ?_;refine AWP.block ?_;generalize hz2:yh (yum a0 i1 s1) (a0.length-0) 0 ()=z2 at hz1;refine AWP.range (yum a0 i1 s1) (fun i2 s2=>⟨[(0,encL 3 yw a0),(3,.int .i64 s1),(4,.int .i64 (i1:Int)),(5,.ptr 0 0),(8,encL 3 yw a0),(9,.int .i64 (a0.length:Int)),(10,.int .i64 (i1:Int)),(33,encL 3 yw a0),(34,.int .i64 (a0.length:Int)),(35,.int .i64 (i2:Int))],[.box [.int .i64 ((a0.getD i1 default).From),.int .i64 ((a0.getD i1 default).To),.str ((a0.getD i1 default).Color)]]⟩) (fun i2 s2=>True) (a0.length) 0 () [0] hz2 ot wt sm ?_;clear hz2;intro i2 s2 hi2 hW2 hz2;refine rS ?_;refine AWP.seq ?_;refine AWP.cond rfl (fun hb => ?_) (fun hb => ?_)
   ·have hlt2:i2<a0.length:=ot
    rw[yn hlt2]at hz2;simp only[yum]at hz2;iterate 2 refine rS ?_
    refine AWP.cond rfl (fun hb => ?_) (fun hb => ?_)
    ·simp only[hb,cond_true]at hz2
     refine rS ?_;refine AWP.ret ?_;subst hz2;dsimp only at hz1;subst hz1;dsimp only at hR;subst hR;exact es
    ·simp only[hb,cond_false]at hz2
     refine rS ?_;exact⟨_,[0],hlt2,wt,hz2,sm⟩
   ·obtain rfl:i2=a0.length:=ot
    rw[yp (Nat.le_refl _)]at hz2;subst hz2;dsimp only at hz1;refine AWP.exit ?_;refine yc ?_;iterate 2 refine rS ?_
    exact⟨_,[],hlt1,wt,hz1,sm⟩
 ·obtain rfl:i1=a0.length:=ot
  rw[yp (Nat.le_refl _)]at hz1;subst hz1;dsimp only at hR;refine AWP.exit ?_;refine yc ?_;refine rS ?_;refine AWP.ret ?_;subst hR;exact es
end N129
def D_zec : DF
 | [x0]=>some (.bool (zec (rdL y8 x0)),false,[wL 3 yw y8 x0])
 | _=>none
theorem yov:OkD Tryz.prog 129 D_zec:=by unfold D_zec;exact dk N129.den
def y3l (a0:(List Sector)) (i1:Nat) (s1:List UInt8) (i2:Nat) (s2:List UInt8):Except ((List UInt8)) (List UInt8):=
 (bif ((((a0.getD i2 default).Color) == (([87,82,71,89].take ((IntKind.wrap .i64 ((i1:Int)+1)).toNat)).drop i1)) && (!(znb s2 (([87,82,71,89].take ((IntKind.wrap .i64 ((i1:Int)+1)).toNat)).drop i1))))then .ok (s2++(([87,82,71,89].take ((IntKind.wrap .i64 ((i1:Int)+1)).toNat)).drop i1))else .ok s2)
def y4j (a0:(List Sector)) (i1:Nat) (s1:List UInt8):Except ((List UInt8)) (List UInt8):=
 (match yh (y3l a0 i1 s1) (a0.length-0) 0 s1 with|.error e=>.error e|.ok s2=>.ok s2)
def zfc (a0:(List Sector)):(List UInt8):=
 (match yh (y4j a0) ([87,82,71,89].length-0) 0 []with|.error e=>e|.ok s1=>s1)
namespace N130
theorem DD:DOk Tryz.prog (Go.Ab.DD [(131,dP D_znb)]):=ya yop.e <| yb _
theorem dn:type_of% (@D_znb.eq_1):=by and_intros<;>intros<;>rfl
theorem o0 {p:Prop} (h:p:=by(first|(have h4:=hq4 i1;have h1:=hW1;have h2:=hW2;and_intros<;>first|omega|exact y9q (by omega)));first|done|fail):p:=h
theorem den (a0:(List Sector)) (hb0:a0.length<1099511627776) (hb1:∀ v∈a0,bdSector v):Den Tryz.prog 130 [encL 3 yw a0] (.str (zfc a0)):=by
 generalize hR:zfc a0=r;unfold zfc at hR;refine di Tryz.func130 Tryz.ntmps130 Tryz.results130 ?_;intro c hL hc hk;obtain⟨hL0,_⟩:=hL;have hw0:a0.length<9223372036854775808:=Nat.lt_succ_of_le (yf hL0).1;have hw1:∀ v∈a0,bwSector v:=fun v hv=>yfb v ((yf hL0).2 v hv)
 clear hL0;simp only[pars,Nat.zero_add];have hq4:=yuv;iterate 3 refine rS ?_
 refine AWP.block ?_;generalize hz1:yh (y4j a0) ([87,82,71,89].length-0) 0 []=z1 at hR;refine AWP.range (y4j a0) (fun i1 s1=>⟨[(0,encL 3 yw a0),(3,.str s1),(8,.ptr 0 0)],[.it [87,82,71,89] i1 (decide (i1<[87,82,71,89].length))]⟩) (fun i1 s1=>s1.length<=1099511627776 * i1) ([87,82,71,89].length) 0 [] [0] hz1 ot (by(simp)) sm ?_;clear hz1;intro i1 s1 hi1 hW1 hz1;refine AWP.seq ?_;by_cases hlt1:i1<[87,82,71,89].length
 ·rw[yn hlt1]at hz1;simp only[y4j]at hz1
  rw[decide_eq_true hlt1];refine rS ?_;refine AWP.seq ?_;refine AWP.cond rfl (fun hb => ?_) (fun hb=>nomatch hb);iterate 2 refine rS ?_
  refine AWP.block ?_;generalize hz2:yh (y3l a0 i1 s1) (a0.length-0) 0 s1=z2 at hz1;refine AWP.range (y3l a0 i1 s1) (fun i2 s2=>⟨[(0,encL 3 yw a0),(3,.str s2),(4,.int .i64 (i1:Int)),(8,.ptr 0 0),(12,encL 3 yw a0),(13,.int .i64 (a0.length:Int)),(14,.int .i64 (i2:Int))],[.it [87,82,71,89] (i1+1) (decide (i1+1<[87,82,71,89].length))]⟩) (fun i2 s2=>s2.length<=1099511627776 * i1+i2) (a0.length) 0 s1 [0] hz2 ot (by(exact hW1)) sm ?_;clear hz2;intro i2 s2 hi2 hW2 hz2;refine rS ?_;refine AWP.seq ?_;refine AWP.cond rfl (fun hb => ?_) (fun hb => ?_)
  ·have hlt2:i2<a0.length:=ot
   rw[yn hlt2]at hz2;simp only[y3l]at hz2;iterate 3 refine rS ?_
   refine AWP.cond rfl (fun hb => ?_) (fun hb => ?_)
   ·simp only[hb,cond_true]at hz2
    iterate 2 refine rS ?_
    exact⟨_,[0],hlt2,by(have h4:=hq4 i1;have h2:=hW2;simp only[ln]at *;omega),hz2,sm⟩
   ·simp only[hb,cond_false]at hz2
    refine rS ?_;exact⟨_,[0],hlt2,by(have h4:=hq4 i1;have h2:=hW2;simp only[ln]at *;omega),hz2,sm⟩
  ·obtain rfl:i2=a0.length:=ot
   rw[yp (Nat.le_refl _)]at hz2;subst hz2;dsimp only at hz1;refine AWP.exit ?_;refine yc ?_;exact⟨_,[0],hlt1,by(have h1:=hW1;omega),hz1,sm⟩
 ·obtain rfl:i1=[87,82,71,89].length:=by omega
  rw[yp (Nat.le_refl _)]at hz1;subst hz1;dsimp only at hR;simp only[Nat.lt_irrefl,decide_false];refine rS ?_;refine AWP.seq ?_;refine AWP.cond rfl (fun hb=>nomatch hb) (fun hb => ?_);refine AWP.exit ?_;refine yc ?_;refine rS ?_;refine AWP.ret ?_;subst hR;exact es
end N130
def D_zfc : DF
 | [x0]=>some (.str (zfc (rdL y8 x0)),false,[wL 3 yw y8 x0,(rdL y8 x0).length<1099511627776,∀ v∈(rdL y8 x0),bdSector v])
 | _=>none
theorem y4x:OkD Tryz.prog 130 D_zfc:=by unfold D_zfc;exact dk N130.den
def zse (a0:Int):Bool:=
 (zi a0 1 9)
namespace N155
theorem DD:DOk Tryz.prog (Go.Ab.DD [(101,dP D_zi)]):=ya yec.e <| yb _
theorem dn:type_of% (@D_zi.eq_1):=by and_intros<;>intros<;>rfl
theorem ol:type_of% (@zi.eq_1):=@zi.eq_1
theorem den (a0:Int)  : Den Tryz.prog 155 [.int .i64 a0] (.bool (zse a0)):=by
 generalize hR:zse a0=r;unfold zse at hR;refine di Tryz.func155 Tryz.ntmps155 Tryz.results155 ?_;intro c hL hc hk;clear hL;simp only[pars,Nat.zero_add];iterate 2 refine rS ?_
 refine AWP.ret ?_;subst hR;exact es
end N155
def D_zse : DF
 | [x0]=>some (.bool (zse (rdI x0)),false,[wI .i64 x0])
 | _=>none
theorem yoq:OkD Tryz.prog 155 D_zse:=by unfold D_zse;exact dk N155.den
def zte (a0:Int) (a1:Int):Bool:=
 (decide (0<=a0) && decide (a0<a1))
namespace N260
theorem DD:DOk Tryz.prog (Go.Ab.DD []):=yb _
theorem den (a0:Int) (a1:Int)  : Den Tryz.prog 260 [.int .i64 a0,.int .i64 a1] (.bool (zte a0 a1)):=by
 generalize hR:zte a0 a1=r;unfold zte at hR;refine di Tryz.func260 Tryz.ntmps260 Tryz.results260 ?_;intro c hL hc hk;clear hL;simp only[pars,Nat.zero_add];iterate 2 refine rS ?_
 refine AWP.ret ?_;subst hR;exact es
end N260
def D_zte : DF
 | [x0,x1]=>some (.bool (zte (rdI x0) (rdI x1)),false,[wI .i64 x0,wI .i64 x1])
 | _=>none
theorem ycw:OkD Tryz.prog 260 D_zte:=by unfold D_zte;exact dk N260.den
def zfd (a0:Int) (a1:(List (List UInt8))):(List UInt8):=
 (bif (!(zte a0 (a1.length:Int)))then[]else(a1.getD ((a0).toNat) default))
namespace N216
theorem DD:DOk Tryz.prog (Go.Ab.DD [(260,dP D_zte)]):=ya ycw.e <| yb _
theorem dn:type_of% (@D_zte.eq_1):=by and_intros<;>intros<;>rfl
theorem ol:type_of% (@zte.eq_1):=@zte.eq_1
theorem den (a0:Int) (a1:(List (List UInt8)))  : Den Tryz.prog 216 [.int .i64 a0,encL 1 eS a1] (.str (zfd a0 a1)):=by
 generalize hR:zfd a0 a1=r;unfold zfd at hR;refine di Tryz.func216 Tryz.ntmps216 Tryz.results216 ?_;intro c hL hc hk;obtain⟨hL0,hL1,_⟩:=hL;have hw0:a1.length<9223372036854775808:=Nat.lt_succ_of_le (yf hL1).1;have hw1:∀ v∈a1,bwS v:=fun v hv=>y7p v ((yf hL1).2 v hv)
 clear hL0 hL1;simp only[pars,Nat.zero_add];iterate 2 refine rS ?_
 refine AWP.cond rfl (fun hb => ?_) (fun hb => ?_)
 ·replace hR:=ct hR
  refine rS ?_;refine AWP.ret ?_;subst hR;exact es
 ·replace hR:=cf hR
  refine rS ?_;refine AWP.ret ?_;subst hR;exact es
end N216
def D_zfd : DF
 | [x0,x1]=>some (.str (zfd (rdI x0) (rdL dS x1)),false,[wI .i64 x0,wL 1 eS dS x1])
 | _=>none
theorem ykk:OkD Tryz.prog 216 D_zfd:=by unfold D_zfd;exact dk N216.den
def zue (a0:Int):(List UInt8):=
 (zfd a0 ([[],[82],[71],[66,89],[66,89,66],[89,66],[89,66,89],[66,82,66],[82,87],[89]]:List (List UInt8)))
namespace N156
theorem DD:DOk Tryz.prog (Go.Ab.DD [(216,dP D_zfd)]):=ya ykk.e <| yb _
theorem dn:type_of% (@D_zfd.eq_1):=by and_intros<;>intros<;>rfl
theorem lx {p:Prop} (h:p:=by(exact lxx);first|done|fail):p:=h
theorem den (a0:Int)  : Den Tryz.prog 156 [.int .i64 a0] (.str (zue a0)):=by
 generalize hR:zue a0=r;unfold zue at hR;refine di Tryz.func156 Tryz.ntmps156 Tryz.results156 ?_;intro c hL hc hk;clear hL;simp only[pars,Nat.zero_add];iterate 2 refine rS ?_
 refine AWP.ret ?_;subst hR;exact es
end N156
def D_zue : DF
 | [x0]=>some (.str (zue (rdI x0)),false,[wI .i64 x0])
 | _=>none
theorem yhp:OkD Tryz.prog 156 D_zue:=by unfold D_zue;exact dk N156.den
theorem yrp {P:List UInt8->Prop} (n:Int) (l:List (List UInt8)) (h0:P []) (h:∀ y∈l,P y):P (zfd n l):=by
 unfold zfd
 cases hb:zte n (l.length:Int)with
 | false=>exact h0
 | true=>
  simp only[Bool.not_true,cond_false];rw[List.getD_eq_getElem?_getD];by_cases hi:n.toNat<l.length
  ·rw[List.getElem?_eq_getElem hi];exact h _ (List.getElem_mem hi)
  ·rw[List.getElem?_eq_none (by omega)];exact h0
def zld (a0:Int):(List (List UInt8)):=
 (zsf (zfd a0 ([[],[99,97,110,32,112,105,108,108,97,114,32,115,112,97,114],[99,111,110,101,32,112,105,108,108,97,114,32,115,112,97,114],[112,105,108,108,97,114,32,115,112,97,114],[112,105,108,108,97,114,32,115,112,97,114],[112,105,108,108,97,114,32,115,112,97,114],[112,105,108,108,97,114,32,115,112,97,114],[112,105,108,108,97,114,32,115,112,97,114],[115,112,104,101,114,101,32,112,105,108,108,97,114,32,115,112,97,114],[99,97,110,32,99,111,110,101,32,112,105,108,108,97,114,32,115,112,97,114,32,115,112,104,101,114,101]]:List (List UInt8))))
namespace N158
theorem DD:DOk Tryz.prog (Go.Ab.DD [(216,dP D_zfd),(218,dP D_zsf)]):=ya ykk.e <| ya y4v.e <| yb _
theorem dn:type_of% (And.intro @D_zfd.eq_1 <| @D_zsf.eq_1):=by and_intros<;>intros<;>rfl
theorem o0 {p:Prop} (h:p:=by(first|(and_intros<;>first|exact yrp (P:=fun y=>y.length<=1048576) _ _ (by simp) (by simp)|exact yrp (P:=fun y=>∀ x∈y,x.toNat<128) _ _ (by simp) (by simp)));first|done|fail):p:=h
theorem lx {p:Prop} (h:p:=by(exact lxx);first|done|fail):p:=h
theorem den (a0:Int)  : Den Tryz.prog 158 [.int .i64 a0] (ownL 9 1 eS (zld a0)):=by
 generalize hR:zld a0=r;unfold zld at hR;refine di Tryz.func158 Tryz.ntmps158 Tryz.results158 ?_;intro c hL hc hk;clear hL;simp only[pars,Nat.zero_add];iterate 2 refine rS ?_
 refine AWP.ret ?_;subst hR;exact es
end N158
def D_zld : DF
 | [x0]=>some (ownL 9 1 eS (zld (rdI x0)),false,[wI .i64 x0])
 | _=>none
def Dz_zld : DF
 | [x0]=>some (ownL 9 1 eS (zld (rdI x0)),true,[wI .i64 x0])
 | _=>none
theorem y1v:OkD Tryz.prog 158 D_zld:=by unfold D_zld;exact dk N158.den
theorem ytu:OkD Tryz.prog 158 Dz_zld:=by unfold Dz_zld;exact dk N158.den
def zve (a0:Int):(List UInt8):=
 (zfd a0 ([[],[99,97,110],[99,111,110,101],[117,112],[98,97,115,101],[100,111,119,110],[112,111,105,110,116],[98,97,108,108,115],[98,97,108,108],[99,114,111,115,115]]:List (List UInt8)))
namespace N159
theorem DD:DOk Tryz.prog (Go.Ab.DD [(216,dP D_zfd)]):=ya ykk.e <| yb _
theorem dn:type_of% (@D_zfd.eq_1):=by and_intros<;>intros<;>rfl
theorem lx {p:Prop} (h:p:=by(exact lxx);first|done|fail):p:=h
theorem den (a0:Int)  : Den Tryz.prog 159 [.int .i64 a0] (.str (zve a0)):=by
 generalize hR:zve a0=r;unfold zve at hR;refine di Tryz.func159 Tryz.ntmps159 Tryz.results159 ?_;intro c hL hc hk;clear hL;simp only[pars,Nat.zero_add];iterate 2 refine rS ?_
 refine AWP.ret ?_;subst hR;exact es
end N159
def D_zve : DF
 | [x0]=>some (.str (zve (rdI x0)),false,[wI .i64 x0])
 | _=>none
theorem yfp:OkD Tryz.prog 159 D_zve:=by unfold D_zve;exact dk N159.den
def zwe (a0:Mark):Bool:=
 (bif (a0.Kind == 0 && (a0.Colors == [] && (a0.Shape == [] && a0.Topmark == [])))then true else((((zse a0.Kind) && (a0.Colors == (zue a0.Kind))) && (zke (zld a0.Kind) a0.Shape)) && ((a0.Topmark == []) || (a0.Topmark == (zve a0.Kind)))))
namespace N106
theorem DD:DOk Tryz.prog (Go.Ab.DD [(155,dP D_zse),(156,dP D_zue),(157,dP D_zke),(158,dP D_zld),(159,dP D_zve)]):=ya yoq.e <| ya yhp.e <| ya y0p.e <| ya y1v.e <| ya yfp.e <| yb _
theorem DZ:DOk Tryz.prog (Go.Ab.DD [(155,dP D_zse),(156,dP D_zue),(157,dP D_zke),(158,dP Dz_zld),(159,dP D_zve)]):=ya yoq.e <| ya yhp.e <| ya y0p.e <| ya ytu.e <| ya yfp.e <| yb _
theorem dn:type_of% (And.intro @D_zse.eq_1 <| And.intro @D_zue.eq_1 <| And.intro @D_zke.eq_1 <| And.intro @D_zld.eq_1 <| And.intro @D_zve.eq_1 <| @Dz_zld.eq_1):=by and_intros<;>intros<;>rfl
theorem den (a0:Mark) (hb0:bdMark a0):Den Tryz.prog 106 [.agg (yzg a0)] (.bool (zwe a0)):=by
 generalize hR:zwe a0=r;unfold zwe at hR;refine di Tryz.func106 Tryz.ntmps106 Tryz.results106 ?_;intro c hL hc hk;obtain⟨hL0,_⟩:=hL;have hw0:bwMark a0:=yih a0 hL0;clear hL0;simp only[pars,Nat.zero_add];iterate 2 refine rS ?_
 refine AWP.cond rfl (fun hb => ?_) (fun hb => ?_)
 ·replace hR:=ct hR
  refine rS ?_;refine AWP.ret ?_;subst hR;exact es
 ·replace hR:=cf hR
  refine rZ 32 ?_;refine AWP.ret ?_;subst hR;exact es
end N106
def D_zwe : DF
 | [x0]=>some (.bool (zwe (rdG yok x0)),false,[wG yzg yok x0,bdMark (rdG yok x0)])
 | _=>none
theorem ytw:OkD Tryz.prog 106 D_zwe:=by unfold D_zwe;exact dk N106.den
def ykj (a0:(List Int)) (a1:(List Int)) (i1:Nat) (s1:Unit):Except (Bool) (Unit):=
 (bif ((a0.getD i1 default) != (a1.getD i1 default))then .error false else .ok ())
def zmd (a0:(List Int)) (a1:(List Int)):Bool:=
 (bif ((a0.length:Int) != (a1.length:Int))then false else(match yh (ykj a0 a1) (a0.length-0) 0 ()with|.error e=>e|.ok s1=>true))
namespace N219
theorem DD:DOk Tryz.prog (Go.Ab.DD []):=yb _
theorem den (a0:(List Int)) (a1:(List Int))  : Den Tryz.prog 219 [encL 1 yq a0,encL 1 yq a1] (.bool (zmd a0 a1)):=by
 generalize hR:zmd a0 a1=r;unfold zmd at hR;refine di Tryz.func219 Tryz.ntmps219 Tryz.results219 ?_;intro c hL hc hk;obtain⟨hL0,hL1,_⟩:=hL;have hw0:a0.length<9223372036854775808:=Nat.lt_succ_of_le (yf hL0).1;have hw1:a1.length<9223372036854775808:=Nat.lt_succ_of_le (yf hL1).1;clear hL0 hL1;simp only[pars,Nat.zero_add];iterate 2 refine rS ?_
 refine AWP.cond rfl (fun hb => ?_) (fun hb => ?_)
 ·replace hR:=ct hR
  refine rS ?_;refine AWP.ret ?_;subst hR;exact es
 ·replace hR:=cf hR
  refine rS ?_;refine AWP.block ?_;generalize hz1:yh (ykj a0 a1) (a0.length-0) 0 ()=z1 at hR;refine AWP.range (ykj a0 a1) (fun i1 s1=>⟨[(0,encL 1 yq a0),(1,encL 1 yq a1),(12,.int .i64 (a0.length:Int)),(13,.int .i64 (i1:Int))],[]⟩) (fun i1 s1=>True) (a0.length) 0 () [] hz1 ot wt sm ?_;clear hz1;intro i1 s1 hi1 hW1 hz1;refine rS ?_;refine AWP.seq ?_;refine AWP.cond rfl (fun hb => ?_) (fun hb => ?_)
  ·have hlt1:i1<a0.length:=ot
   rw[yn hlt1]at hz1;simp only[ykj]at hz1;refine rS ?_;refine rD 8 ?_;refine AWP.cond rfl (fun hb => ?_) (fun hb => ?_)
   ·simp only[hb,cond_true]at hz1
    refine rS ?_;refine AWP.ret ?_;subst hz1;dsimp only at hR;subst hR;exact es
   ·simp only[hb,cond_false]at hz1
    refine rS ?_;exact⟨_,[],hlt1,wt,hz1,sm⟩
  ·obtain rfl:i1=a0.length:=ot
   rw[yp (Nat.le_refl _)]at hz1;subst hz1;dsimp only at hR;refine AWP.exit ?_;refine yc ?_;refine rS ?_;refine AWP.ret ?_;subst hR;exact es
end N219
def D_zmd : DF
 | [x0,x1]=>some (.bool (zmd (rdL ydb x0) (rdL ydb x1)),false,[wL 1 yq ydb x0,wL 1 yq ydb x1])
 | _=>none
theorem y8u:OkD Tryz.prog 219 D_zmd:=by unfold D_zmd;exact dk N219.den
theorem y8i (a b:List Int):zmd a b=decide (a=b):=by
 unfold zmd;by_cases hl:a.length=b.length
 ·have h1:((a.length:Int) != (b.length:Int))=false:=by simp[hl]
  rw[h1,cond_false,ypd (b:=ykj a b) (fun j => !decide (a.getD j default=b.getD j default)) false (fun j u _ _=>by simp only[ykj,ned])];simp only[Nat.sub_zero,Nat.zero_add];rw[yqy a b hl];by_cases h:a=b<;>simp[h]
 ·have h1:((a.length:Int) != (b.length:Int))=true:=by simp;omega
  have h2:¬ a=b:=fun e=>hl (by rw[e])
  rw[h1,cond_true,decide_eq_false h2]
def zif (a0:Int):Bool:=
 (zi a0 1 9999)
namespace N104
theorem DD:DOk Tryz.prog (Go.Ab.DD [(101,dP D_zi)]):=ya yec.e <| yb _
theorem dn:type_of% (@D_zi.eq_1):=by and_intros<;>intros<;>rfl
theorem ol:type_of% (@zi.eq_1):=@zi.eq_1
theorem den (a0:Int)  : Den Tryz.prog 104 [.int .i64 a0] (.bool (zif a0)):=by
 generalize hR:zif a0=r;unfold zif at hR;refine di Tryz.func104 Tryz.ntmps104 Tryz.results104 ?_;intro c hL hc hk;clear hL;simp only[pars,Nat.zero_add];iterate 2 refine rS ?_
 refine AWP.ret ?_;subst hR;exact es
end N104
def D_zif : DF
 | [x0]=>some (.bool (zif (rdI x0)),false,[wI .i64 x0])
 | _=>none
theorem y7x:OkD Tryz.prog 104 D_zif:=by unfold D_zif;exact dk N104.den
def zjf (a0:Int):Bool:=
 (zi a0 0 3000)
namespace N105
theorem DD:DOk Tryz.prog (Go.Ab.DD [(101,dP D_zi)]):=ya yec.e <| yb _
theorem dn:type_of% (@D_zi.eq_1):=by and_intros<;>intros<;>rfl
theorem ol:type_of% (@zi.eq_1):=@zi.eq_1
theorem den (a0:Int)  : Den Tryz.prog 105 [.int .i64 a0] (.bool (zjf a0)):=by
 generalize hR:zjf a0=r;unfold zjf at hR;refine di Tryz.func105 Tryz.ntmps105 Tryz.results105 ?_;intro c hL hc hk;clear hL;simp only[pars,Nat.zero_add];iterate 2 refine rS ?_
 refine AWP.ret ?_;subst hR;exact es
end N105
def D_zjf : DF
 | [x0]=>some (.bool (zjf (rdI x0)),false,[wI .i64 x0])
 | _=>none
theorem yhx:OkD Tryz.prog 105 D_zjf:=by unfold D_zjf;exact dk N105.den
def zkf (a0:Character) (a1:Character):Bool:=
 (((((a0.Kind == a1.Kind) && (zmd a0.Group a1.Group)) && (a0.Letter == a1.Letter)) && (a0.Colors == a1.Colors)) && (a0.Period == a1.Period))
namespace N160
theorem DD:DOk Tryz.prog (Go.Ab.DD [(219,dP D_zmd)]):=ya y8u.e <| yb _
theorem dn:type_of% (@D_zmd.eq_1):=by and_intros<;>intros<;>rfl
theorem den (a0:Character) (a1:Character)  : Den Tryz.prog 160 [.agg (ym a0),.agg (ym a1)] (.bool (zkf a0 a1)):=by
 generalize hR:zkf a0 a1=r;unfold zkf at hR;refine di Tryz.func160 Tryz.ntmps160 Tryz.results160 ?_;intro c hL hc hk;obtain⟨hL0,hL1,_⟩:=hL;have hw0:bwCharacter a0:=yv a0 hL0;have hw1:bwCharacter a1:=yv a1 hL1;clear hL0 hL1;simp only[pars,Nat.zero_add];iterate 2 refine rS ?_
 refine AWP.ret ?_;subst hR;exact es
end N160
def D_zkf : DF
 | [x0,x1]=>some (.bool (zkf (rdG ye x0) (rdG ye x1)),false,[wG ym ye x0,wG ym ye x1])
 | _=>none
theorem y7w:OkD Tryz.prog 160 D_zkf:=by unfold D_zkf;exact dk N160.den
def zdf (a0:Aid):Bool:=
 (((zkf a0.Light ({ Kind:=0,Group:=[],Letter:=[],Colors:=[],Period:=0:Character })) && ((a0.Sectors.length:Int) == 0)) && (a0.Intensity == 0))
namespace N107
theorem DD:DOk Tryz.prog (Go.Ab.DD [(160,dP D_zkf)]):=ya y7w.e <| yb _
theorem dn:type_of% (@D_zkf.eq_1):=by and_intros<;>intros<;>rfl
theorem den (a0:Aid)  : Den Tryz.prog 107 [.agg (eAid a0)] (.bool (zdf a0)):=by
 generalize hR:zdf a0=r;unfold zdf at hR;refine di Tryz.func107 Tryz.ntmps107 Tryz.results107 ?_;intro c hL hc hk;obtain⟨hL0,_⟩:=hL;have hw0:bwAid a0:=yeb a0 hL0;clear hL0;simp only[pars,Nat.zero_add];iterate 2 refine rS ?_
 refine AWP.ret ?_;subst hR;exact es
end N107
def D_zdf : DF
 | [x0]=>some (.bool (zdf (rdG dAid x0)),false,[wG eAid dAid x0])
 | _=>none
theorem yuw:OkD Tryz.prog 107 D_zdf:=by unfold D_zdf;exact dk N107.den
def zlf (a0:Int):Bool:=
 (zi a0 1 100000000)
namespace N128
theorem DD:DOk Tryz.prog (Go.Ab.DD [(101,dP D_zi)]):=ya yec.e <| yb _
theorem dn:type_of% (@D_zi.eq_1):=by and_intros<;>intros<;>rfl
theorem ol:type_of% (@zi.eq_1):=@zi.eq_1
theorem den (a0:Int)  : Den Tryz.prog 128 [.int .i64 a0] (.bool (zlf a0)):=by
 generalize hR:zlf a0=r;unfold zlf at hR;refine di Tryz.func128 Tryz.ntmps128 Tryz.results128 ?_;intro c hL hc hk;clear hL;simp only[pars,Nat.zero_add];iterate 2 refine rS ?_
 refine AWP.ret ?_;subst hR;exact es
end N128
def D_zlf : DF
 | [x0]=>some (.bool (zlf (rdI x0)),false,[wI .i64 x0])
 | _=>none
theorem ygv:OkD Tryz.prog 128 D_zlf:=by unfold D_zlf;exact dk N128.den
def upto (l:List Aid) (n:Int):Nat:=(l.takeWhile (fun x=>decide (x.Number<n))).length
theorem ydz (l:List Aid) (n:Int):upto l n<=l.length:=by unfold upto;exact(List.takeWhile_prefix _).length_le
theorem yos {ρ : Type} (l : List Aid) (n : Int) (hl : l.length < 9223372036854775808) (b : Int -> Except (Sum ρ Int) Int)
  (hb:∀ s,b s=bif (decide (s<(l.length:Int)) && decide ((l.getD s.toNat default).Number<n))then .ok (IntKind.wrap .i64 (s+1))else .error (.inr s)) :
  ∀ (r p:List Aid) (k:Nat),l=p++r->r.length<k->ymb b k (p.length:Int)=.error (.inr ((p.length+upto r n:Nat):Int))
 | _,_,0,_,h=>absurd h (Nat.not_lt_zero _)
 | [],p,k+1,e,_=>by
  subst e;simp only[ymb,hb,List.append_nil,Int.lt_irrefl,decide_false,Bool.false_and,cond_false];simp[upto]
 | x::r,p,k+1,e,hk=>by
  have hg:l.getD ((p.length:Int)).toNat default=x:=by subst e;simp
  have hlt:decide ((p.length:Int)<(l.length:Int))=true:=by subst e;simp;omega
  simp only[ymb,hb,hg,hlt,Bool.true_and]
  cases hx:decide (x.Number<n)with
  | false=>simp[upto,List.takeWhile_cons,hx]
  | true=>
   have hw:IntKind.wrap .i64 ((p.length:Int)+1)=((p++[x]).length:Int):=by
    have:p.length<l.length:=by subst e;simp
    have e2:(p++[x]).length=p.length+1:=by simp
    rw[IntKind.wrap_i64,e2];omega
   simp only[cond_true,hw];rw[yos l n hl b hb r (p++[x]) k (by simp[e]) (by simp at hk;omega)]
   have e3:(p++[x]).length+upto r n=p.length+upto (x::r) n:=by
    simp[upto,List.takeWhile_cons,hx];omega
   rw[e3]
end Go.Ab
