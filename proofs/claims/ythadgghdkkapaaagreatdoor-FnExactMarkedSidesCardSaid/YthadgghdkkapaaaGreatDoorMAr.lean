/- A part of a proof: walks of functions and lemmas of our own. No conditions. -/
import Derived.Test.YthadgghdkkapaaaGreatDoorMAl
import Derived.Test.YthadgghdkkapaaaGreatDoorMAq
import Derived.Test.YthadgghdkkapaaaGreatDoorMAo
import Derived.Test.YthadgghdkkapaaaGreatDoorMAi
import Derived.Test.YthadgghdkkapaaaGreatDoorMAk
set_option linter.unusedSectionVars false
set_option linter.unusedVariables false
set_option linter.unusedSimpArgs false
set_option maxHeartbeats 1000000
namespace Go.Ab
open Go Go.Proofs
def yuq (a0:Character) (i1:Nat) (s1:List Int):Except ((List Int)) (List Int):=
 (bif decide (0<(i1:Int))then(bif ((((zp a0.Letter).getD i1 0).toNat:Int) == 45)then .ok ((s1++([(zf a0.Kind).2.1]:List Int))++([IntKind.wrap .i64 (3 * ((zf a0.Kind).1))]:List Int))else .ok ((s1++([(zf a0.Kind).2.1]:List Int))++([(zf a0.Kind).1]:List Int)))else(bif ((((zp a0.Letter).getD i1 0).toNat:Int) == 45)then .ok (s1++([IntKind.wrap .i64 (3 * ((zf a0.Kind).1))]:List Int))else .ok (s1++([(zf a0.Kind).1]:List Int))))
def y9p (a0:Character) (i2:Nat) (s2:List Int) (i3:Nat) (s3:List Int):Except ((List Int)) (List Int):=
 (bif decide (0<(i3:Int))then .ok ((s3++([(zf a0.Kind).2.1]:List Int))++([(zf a0.Kind).1]:List Int))else(bif decide (0<(i2:Int))then .ok ((s3++([IntKind.wrap .i64 (((zf a0.Kind).2.1)+20)]:List Int))++([(zf a0.Kind).1]:List Int))else .ok (s3++([(zf a0.Kind).1]:List Int))))
def ywq (a0:Character) (i2:Nat) (s2:List Int):Except ((List Int)) (List Int):=
 (match yf (y9p a0 i2 s2) (((([1]:List Int).getD i2 default)).toNat-0) 0 s2 with|.error e=>.error e|.ok s3=>.ok s3)
def ysq (a0:Character) (i4:Nat) (s4:List Int) (i5:Nat) (s5:List Int):Except ((List Int)) (List Int):=
 (bif decide (0<(i5:Int))then .ok ((s5++([(zf a0.Kind).2.1]:List Int))++([(zf a0.Kind).1]:List Int))else(bif decide (0<(i4:Int))then .ok ((s5++([IntKind.wrap .i64 (((zf a0.Kind).2.1)+20)]:List Int))++([(zf a0.Kind).1]:List Int))else .ok (s5++([(zf a0.Kind).1]:List Int))))
def yxq (a0:Character) (i4:Nat) (s4:List Int):Except ((List Int)) (List Int):=
 (match yf (ysq a0 i4 s4) (((a0.Group.getD i4 default)).toNat-0) 0 s4 with|.error e=>.error e|.ok s5=>.ok s5)
def ze (a0:Character):(List Int):=
 (bif (a0.Kind == 8)then(match yf (yuq a0) ((zp a0.Letter).length-0) 0 ([]:List Int)with|.error e=>e|.ok s1=>s1)else(bif ((a0.Group.length:Int) == 0)then(match yf (ywq a0) (1-0) 0 ([]:List Int)with|.error e=>e|.ok s2=>(bif (a0.Letter != [])then s2++([(zf a0.Kind).2.1,20]:List Int)else s2))else(match yf (yxq a0) (a0.Group.length-0) 0 ([]:List Int)with|.error e=>e|.ok s4=>(bif (a0.Letter != [])then s4++([(zf a0.Kind).2.1,20]:List Int)else s4))))
namespace N192
theorem DD:DOk Tryz.prog (Go.Ab.DD [(191,dP D_zf),(237,dP D_zp)]):=ya y3s.e <| ya y6s.e <| yc _
theorem dn:type_of% (And.intro @D_zf.eq_1 <| @D_zp.eq_1):=by and_intros<;>intros<;>rfl
theorem o2 {p:Prop} (h:p:=by(first|(and_intros<;>first|decide|omega|(simp;(first|done|fail))|(rw[IntKind.wrap_i64];have:=hg9 i4;omega)|(rw[IntKind.wrap_i64];have:=hg1 i2;omega)|(rw[IntKind.wrap_i64];omega)|(intro i hi;exact yik _ _ i hi)|(intro i hi;exact yqm _ _ _ i hi)));first|done|fail):p:=h
theorem o3 {p:Prop} (h:p:=by(first|(refine⟨⟨Nat.le_refl _,fun i hi=>yal _ _ _ i hi⟩,.inl fun i hi=>by rw[y7g _ _ _ i hi];simp[NoBorL,NoBor],by simp,fun i hi=>by rw[y7g _ _ _ i hi];exact yfb _⟩));first|done|fail):p:=h
theorem lx {p:Prop} (h:p:=by(exact lxx);first|done|fail):p:=h
set_option maxHeartbeats 1000000 in
set_option maxRecDepth 20000 in
theorem den (a0:Character) (hb0:bdCharacter a0) (hp0:a0.Group.length<=4) (hp1:∀ v∈a0.Group,v<=9):Den Tryz.prog 192 [.agg (eCharacter a0)] (ownL 2 1 yl (ze a0)):=by
 generalize hR:ze a0=r;unfold ze at hR;refine di Tryz.func192 Tryz.ntmps192 Tryz.results192 ?_;intro c hL hc hk;obtain⟨hL0,_⟩:=hL;have hw0:bwCharacter a0:=yn a0 hL0;clear hL0;simp only[pars,Nat.zero_add];have hg9:∀ i:Nat,a0.Group.getD i default<=9:=fun i=>yzj hp1 i
 have hs9:=yer a0.Letter;have hs8:=y1m a0.Letter;have hg1:∀ i:Nat,([1]:List Int).getD i default<=9:=fun i=>yzj (by simp) i
 iterate 3 refine rS ?_
 refine AWP.cond rfl (fun hb => ?_) (fun hb => ?_)
 ·replace hR:=ct hR
  iterate 2 refine rS ?_
  refine AWP.block ?_;refine AWP.lensT 27 rfl (fun hLn1 => ?_);generalize hz1:yf (yuq a0) ((zp a0.Letter).length-0) 0 ([]:List Int)=z1 at hR;refine AWP.range (yuq a0) (fun i1 s1=>⟨[(3,.int .i64 ((zf a0.Kind).1)),(4,.int .i64 ((zf a0.Kind).2.1)),(6,.ref 0 1 0 s1.length),(28,.ptr 1 0)],[.arr 2 1 s1.length (fun j=>yl (s1.getD j default)),.it (zp a0.Letter) i1 (decide (i1<(zp a0.Letter).length))]⟩) (fun i1 s1=>s1.length<=([]:List Int).length+2 * i1/\s1.length<=2 * i1) ((zp a0.Letter).length) 0 ([]:List Int) [1,2] hz1 ot wt sm ?_;clear hz1;intro i1 s1 hi1 hW1 hz1;refine AWP.seq ?_;by_cases hlt1:i1<(zp a0.Letter).length
  ·rw[yk hlt1]at hz1;simp only[yuq]at hz1
   rw[decide_eq_true hlt1];refine rS ?_;refine AWP.seq ?_;refine AWP.cond rfl (fun hb => ?_) (fun hb=>nomatch hb);iterate 2 refine rS ?_
   refine AWP.cond rfl (fun hb => ?_) (fun hb => ?_)
   ·simp only[hb,cond_true]at hz1
    iterate 2 refine rS ?_
    refine AWP.cond rfl (fun hb => ?_) (fun hb => ?_)
    ·simp only[hb,cond_true]at hz1
     refine rS ?_;exact⟨_,[5,1],hlt1,wt,hz1,sm⟩
    ·simp only[hb,cond_false]at hz1
     refine rS ?_;exact⟨_,[5,1],hlt1,wt,hz1,sm⟩
   ·simp only[hb,cond_false]at hz1
    refine rS ?_;refine AWP.cond rfl (fun hb => ?_) (fun hb => ?_)
    ·simp only[hb,cond_true]at hz1
     refine rS ?_;exact⟨_,[3,1],hlt1,wt,hz1,sm⟩
    ·simp only[hb,cond_false]at hz1
     refine rS ?_;exact⟨_,[3,1],hlt1,wt,hz1,sm⟩
  ·obtain rfl:i1=(zp a0.Letter).length:=by omega
   rw[yj (Nat.le_refl _)]at hz1;subst hz1;dsimp only at hR;simp only[Nat.lt_irrefl,decide_false];refine rS ?_;refine AWP.seq ?_;refine AWP.cond rfl (fun hb=>nomatch hb) (fun hb => ?_);refine AWP.exit ?_;refine yb ?_;refine rS ?_;refine AWP.ret ?_;subst hR;exact es
 ·replace hR:=cf hR
  iterate 2 refine rS ?_
  refine AWP.cond rfl (fun hb => ?_) (fun hb => ?_)
  ·replace hR:=ct hR
   iterate 3 refine rS ?_
   refine AWP.block ?_;generalize hz2:yf (ywq a0) (1-0) 0 ([]:List Int)=z2 at hR;refine AWP.range (ywq a0) (fun i2 s2=>⟨[(1,.ptr 0 0),(3,.int .i64 ((zf a0.Kind).1)),(4,.int .i64 ((zf a0.Kind).2.1)),(10,.ref 1 1 0 s2.length),(58,.ref 2 1 0 1),(59,.int .i64 1),(60,.int .i64 (i2:Int))],[.box [.int .i64 a0.Kind,encL 1 yl a0.Group,.str a0.Letter,.str a0.Colors,.int .i64 a0.Period],.arr 2 1 s2.length (fun j=>yl (s2.getD j default)),.arr 2 1 ([1]:List Int).length (fun j=>yl (([1]:List Int).getD j default))]⟩) (fun i2 s2=>s2.length<=18 * i2) (1) 0 ([]:List Int) [0,2,1] hz2 ot wt sm ?_;clear hz2;intro i2 s2 hi2 hW2 hz2;refine rS ?_;refine AWP.seq ?_;refine AWP.cond rfl (fun hb => ?_) (fun hb => ?_)
   ·have hlt2:i2<1:=ot
    rw[yk hlt2]at hz2;simp only[ywq]at hz2;iterate 2 refine rS ?_
    refine AWP.block ?_;generalize hz3:yf (y9p a0 i2 s2) (((([1]:List Int).getD i2 default)).toNat-0) 0 s2=z3 at hz2;refine AWP.range (y9p a0 i2 s2) (fun i3 s3=>⟨[(1,.ptr 0 0),(3,.int .i64 ((zf a0.Kind).1)),(4,.int .i64 ((zf a0.Kind).2.1)),(10,.ref 1 1 0 s3.length),(11,.int .i64 (i2:Int)),(58,.ref 2 1 0 1),(59,.int .i64 1),(60,.int .i64 (i2:Int)),(65,.int .i64 (([1]:List Int).getD i2 default)),(66,.int .i64 (i3:Int))],[.box [.int .i64 a0.Kind,encL 1 yl a0.Group,.str a0.Letter,.str a0.Colors,.int .i64 a0.Period],.arr 2 1 s3.length (fun j=>yl (s3.getD j default)),.arr 2 1 ([1]:List Int).length (fun j=>yl (([1]:List Int).getD j default))]⟩) (fun i3 s3=>s3.length<=s2.length+2 * i3/\s3.length<=18 * i2+2 * i3) (((([1]:List Int).getD i2 default)).toNat) 0 s2 [0,1,2] hz3 ot wt sm ?_;clear hz3;intro i3 s3 hi3 hW3 hz3;refine rS ?_;refine AWP.seq ?_;refine AWP.cond rfl (fun hb => ?_) (fun hb => ?_)
    ·have hlt3:i3<((([1]:List Int).getD i2 default)).toNat:=ot
     rw[yk hlt3]at hz3;simp only[y9p]at hz3;iterate 2 refine rS ?_
     refine AWP.cond rfl (fun hb => ?_) (fun hb => ?_)
     ·simp only[hb,cond_true]at hz3
      iterate 3 refine rS ?_
      exact⟨_,[0,6,2],hlt3,wt,hz3,sm⟩
     ·simp only[hb,cond_false]at hz3
      refine rS ?_;refine AWP.cond rfl (fun hb => ?_) (fun hb => ?_)
      ·simp only[hb,cond_true]at hz3
       iterate 3 refine rS ?_
       exact⟨_,[0,6,2],hlt3,wt,hz3,sm⟩
      ·simp only[hb,cond_false]at hz3
       iterate 2 refine rS ?_
       exact⟨_,[0,4,2],hlt3,wt,hz3,sm⟩
    ·obtain rfl:i3=((([1]:List Int).getD i2 default)).toNat:=ot
     rw[yj (Nat.le_refl _)]at hz3;subst hz3;dsimp only at hz2;refine AWP.exit ?_;refine yb ?_;refine rS ?_;exact⟨_,[0,1,2],hlt2,by(have h9:=hg1 i2;omega),hz2,sm⟩
   ·obtain rfl:i2=1:=ot
    rw[yj (Nat.le_refl _)]at hz2;subst hz2;dsimp only at hR;refine AWP.exit ?_;refine yb ?_;refine rS ?_;refine AWP.cond rfl (fun hb => ?_) (fun hb => ?_)
    ·replace hR:=ct hR
     iterate 2 refine rS ?_
     refine AWP.ret ?_;subst hR;exact es
    ·replace hR:=cf hR
     refine rS ?_;refine AWP.ret ?_;subst hR;exact es
  ·replace hR:=cf hR
   iterate 2 refine rS ?_
   refine AWP.block ?_;refine AWP.lensS 9 rfl (fun hLn4 => ?_);generalize hz4:yf (yxq a0) (a0.Group.length-0) 0 ([]:List Int)=z4 at hR;refine AWP.range (yxq a0) (fun i4 s4=>⟨[(1,.ptr 0 0),(3,.int .i64 ((zf a0.Kind).1)),(4,.int .i64 ((zf a0.Kind).2.1)),(10,.ref 1 1 0 s4.length),(58,encL 1 yl a0.Group),(59,.int .i64 (a0.Group.length:Int)),(60,.int .i64 (i4:Int))],[.box [.int .i64 a0.Kind,encL 1 yl a0.Group,.str a0.Letter,.str a0.Colors,.int .i64 a0.Period],.arr 2 1 s4.length (fun j=>yl (s4.getD j default))]⟩) (fun i4 s4=>s4.length<=18 * i4) (a0.Group.length) 0 ([]:List Int) [0,1] hz4 ot wt sm ?_;clear hz4;intro i4 s4 hi4 hW4 hz4;refine rS ?_;refine AWP.seq ?_;refine AWP.cond rfl (fun hb => ?_) (fun hb => ?_)
   ·have hlt4:i4<a0.Group.length:=ot
    rw[yk hlt4]at hz4;simp only[yxq]at hz4;iterate 2 refine rS ?_
    refine AWP.block ?_;generalize hz5:yf (ysq a0 i4 s4) (((a0.Group.getD i4 default)).toNat-0) 0 s4=z5 at hz4;refine AWP.range (ysq a0 i4 s4) (fun i5 s5=>⟨[(1,.ptr 0 0),(3,.int .i64 ((zf a0.Kind).1)),(4,.int .i64 ((zf a0.Kind).2.1)),(10,.ref 1 1 0 s5.length),(11,.int .i64 (i4:Int)),(58,encL 1 yl a0.Group),(59,.int .i64 (a0.Group.length:Int)),(60,.int .i64 (i4:Int)),(65,.int .i64 (a0.Group.getD i4 default)),(66,.int .i64 (i5:Int))],[.box [.int .i64 a0.Kind,encL 1 yl a0.Group,.str a0.Letter,.str a0.Colors,.int .i64 a0.Period],.arr 2 1 s5.length (fun j=>yl (s5.getD j default))]⟩) (fun i5 s5=>s5.length<=s4.length+2 * i5/\s5.length<=18 * i4+2 * i5) (((a0.Group.getD i4 default)).toNat) 0 s4 [0,1] hz5 ot wt sm ?_;clear hz5;intro i5 s5 hi5 hW5 hz5;refine rS ?_;refine AWP.seq ?_;refine AWP.cond rfl (fun hb => ?_) (fun hb => ?_)
    ·have hlt5:i5<((a0.Group.getD i4 default)).toNat:=ot
     rw[yk hlt5]at hz5;simp only[ysq]at hz5;iterate 2 refine rS ?_
     refine AWP.cond rfl (fun hb => ?_) (fun hb => ?_)
     ·simp only[hb,cond_true]at hz5
      iterate 3 refine rS ?_
      exact⟨_,[0,5],hlt5,wt,hz5,sm⟩
     ·simp only[hb,cond_false]at hz5
      refine rS ?_;refine AWP.cond rfl (fun hb => ?_) (fun hb => ?_)
      ·simp only[hb,cond_true]at hz5
       iterate 3 refine rS ?_
       exact⟨_,[0,5],hlt5,wt,hz5,sm⟩
      ·simp only[hb,cond_false]at hz5
       iterate 2 refine rS ?_
       exact⟨_,[0,3],hlt5,wt,hz5,sm⟩
    ·obtain rfl:i5=((a0.Group.getD i4 default)).toNat:=ot
     rw[yj (Nat.le_refl _)]at hz5;subst hz5;dsimp only at hz4;refine AWP.exit ?_;refine yb ?_;refine rS ?_;exact⟨_,[0,1],hlt4,by(have h9:=hg9 i4;omega),hz4,sm⟩
   ·obtain rfl:i4=a0.Group.length:=ot
    rw[yj (Nat.le_refl _)]at hz4;subst hz4;dsimp only at hR;refine AWP.exit ?_;refine yb ?_;refine rS ?_;refine AWP.cond rfl (fun hb => ?_) (fun hb => ?_)
    ·replace hR:=ct hR
     iterate 2 refine rS ?_
     refine AWP.ret ?_;subst hR;exact es
    ·replace hR:=cf hR
     refine rS ?_;refine AWP.ret ?_;subst hR;exact es
end N192
def D_ze : DF
 | [x0]=>some (ownL 2 1 yl (ze (rdG yd x0)),false,[wG eCharacter yd x0,bdCharacter (rdG yd x0),(rdG yd x0).Group.length<=4,∀ v∈(rdG yd x0).Group,v<=9])
 | _=>none
theorem ypy:OkD Tryz.prog 192 D_ze:=by unfold D_ze;exact dk N192.den
def yeo (a0:(List Int)) (i1:Nat) (s1:Int):Except (Int) (Int):=
 .ok (IntKind.wrap .i64 (s1+(a0.getD i1 default)))
def zyc (a0:(List Int)):Int:=
 (match yf (yeo a0) (a0.length-0) 0 0 with|.error e=>e|.ok s1=>s1)
namespace N193
theorem DD:DOk Tryz.prog (Go.Ab.DD []):=yc _
theorem den (a0:(List Int))  : Den Tryz.prog 193 [encL 1 yl a0] (.int .i64 (zyc a0)):=by
 generalize hR:zyc a0=r;unfold zyc at hR;refine di Tryz.func193 Tryz.ntmps193 Tryz.results193 ?_;intro c hL hc hk;obtain⟨hL0,_⟩:=hL;have hw0:a0.length<9223372036854775808:=Nat.lt_succ_of_le (ye hL0).1;clear hL0;simp only[pars,Nat.zero_add];iterate 3 refine rS ?_
 refine AWP.block ?_;generalize hz1:yf (yeo a0) (a0.length-0) 0 0=z1 at hR;refine AWP.range (yeo a0) (fun i1 s1=>⟨[(3,.int .i64 s1),(6,encL 1 yl a0),(7,.int .i64 (a0.length:Int)),(8,.int .i64 (i1:Int))],[]⟩) (fun i1 s1=>True) (a0.length) 0 0 [] hz1 ot wt sm ?_;clear hz1;intro i1 s1 hi1 hW1 hz1;refine rS ?_;refine AWP.seq ?_;refine AWP.cond rfl (fun hb => ?_) (fun hb => ?_)
 ·have hlt1:i1<a0.length:=ot
  rw[yk hlt1]at hz1;simp only[yeo]at hz1;iterate 3 refine rS ?_
  exact⟨_,[],hlt1,wt,hz1,sm⟩
 ·obtain rfl:i1=a0.length:=ot
  rw[yj (Nat.le_refl _)]at hz1;subst hz1;dsimp only at hR;refine AWP.exit ?_;refine yb ?_;refine rS ?_;refine AWP.ret ?_;subst hR;exact es
end N193
def D_zyc : DF
 | [x0]=>some (.int .i64 (zyc (rdL yab x0)),false,[wL 1 yl yab x0])
 | _=>none
theorem y1v:OkD Tryz.prog 193 D_zyc:=by unfold D_zyc;exact dk N193.den
def zqe (a0:Character):Int:=
 (bif (zsc a0)then 0 else(bif (a0.Kind == 3)then 20 else(bif decide (1<(a0.Group.length:Int))then IntKind.wrap .i64 ((zyc (ze a0))+(IntKind.wrap .i64 (((zf a0.Kind).2.2)+20)))else IntKind.wrap .i64 ((zyc (ze a0))+((zf a0.Kind).2.2)))))
namespace N180
theorem DD:DOk Tryz.prog (Go.Ab.DD [(179,dP D_zsc),(191,dP D_zf),(192,dP D_ze),(193,dP D_zyc)]):=ya ypp.e <| ya y3s.e <| ya ypy.e <| ya y1v.e <| yc _
theorem dn:type_of% (And.intro @D_zsc.eq_1 <| And.intro @D_zf.eq_1 <| And.intro @D_ze.eq_1 <| @D_zyc.eq_1):=by and_intros<;>intros<;>rfl
theorem den (a0:Character) (hb0:bdCharacter a0) (hp0:a0.Group.length<=4) (hp1:∀ v∈a0.Group,v<=9):Den Tryz.prog 180 [.agg (eCharacter a0)] (.int .i64 (zqe a0)):=by
 generalize hR:zqe a0=r;unfold zqe at hR;refine di Tryz.func180 Tryz.ntmps180 Tryz.results180 ?_;intro c hL hc hk;obtain⟨hL0,_⟩:=hL;have hw0:bwCharacter a0:=yn a0 hL0;clear hL0;simp only[pars,Nat.zero_add];iterate 2 refine rS ?_
 refine AWP.cond rfl (fun hb => ?_) (fun hb => ?_)
 ·replace hR:=ct hR
  refine rS ?_;refine AWP.ret ?_;subst hR;exact es
 ·replace hR:=cf hR
  refine rS ?_;refine AWP.cond rfl (fun hb => ?_) (fun hb => ?_)
  ·replace hR:=ct hR
   refine rS ?_;refine AWP.ret ?_;subst hR;exact es
  ·replace hR:=cf hR
   iterate 2 refine rS ?_
   refine AWP.cond rfl (fun hb => ?_) (fun hb => ?_)
   ·replace hR:=ct hR
    iterate 2 refine rS ?_
    refine AWP.ret ?_;subst hR;exact es
   ·replace hR:=cf hR
    refine rS ?_;refine AWP.ret ?_;subst hR;exact es
end N180
def D_zqe : DF
 | [x0]=>some (.int .i64 (zqe (rdG yd x0)),false,[wG eCharacter yd x0,bdCharacter (rdG yd x0),(rdG yd x0).Group.length<=4,∀ v∈(rdG yd x0).Group,v<=9])
 | _=>none
theorem ywt:OkD Tryz.prog 180 D_zqe:=by unfold D_zqe;exact dk N180.den
def zre (a0:(List UInt8)):Bool:=
 (((a0.length:Int) == 1) && (zm [87,82,71,89] a0))
namespace N239
theorem DD:DOk Tryz.prog (Go.Ab.DD [(131,dP D_zm)]):=ya yms.e <| yc _
theorem dn:type_of% (@D_zm.eq_1):=by and_intros<;>intros<;>rfl
theorem den (a0:(List UInt8))  : Den Tryz.prog 239 [.str a0] (.bool (zre a0)):=by
 generalize hR:zre a0=r;unfold zre at hR;refine di Tryz.func239 Tryz.ntmps239 Tryz.results239 ?_;intro c hL hc hk;obtain⟨hL0,_⟩:=hL;have hw0:a0.length<9223372036854775808:=Nat.lt_succ_of_le hL0;clear hL0;simp only[pars,Nat.zero_add];iterate 2 refine rS ?_
 refine AWP.ret ?_;subst hR;exact es
end N239
def D_zre : DF
 | [x0]=>some (.bool (zre (rdS x0)),false,[wS x0])
 | _=>none
theorem y7t:OkD Tryz.prog 239 D_zre:=by unfold D_zre;exact dk N239.den
def zse (a0:Sector):Bool:=
 (((zdd a0.From) && (zdd a0.To)) && (zre a0.Color))
namespace N181
theorem DD:DOk Tryz.prog (Go.Ab.DD [(151,dP D_zdd),(239,dP D_zre)]):=ya ymo.e <| ya y7t.e <| yc _
theorem dn:type_of% (And.intro @D_zdd.eq_1 <| @D_zre.eq_1):=by and_intros<;>intros<;>rfl
theorem den (a0:Sector)  : Den Tryz.prog 181 [.agg (eSector a0)] (.bool (zse a0)):=by
 generalize hR:zse a0=r;unfold zse at hR;refine di Tryz.func181 Tryz.ntmps181 Tryz.results181 ?_;intro c hL hc hk;obtain⟨hL0,_⟩:=hL;have hw0:bwSector a0:=yq a0 hL0;clear hL0;simp only[pars,Nat.zero_add];iterate 2 refine rS ?_
 refine AWP.ret ?_;subst hR;exact es
end N181
def D_zse : DF
 | [x0]=>some (.bool (zse (rdG ym x0)),false,[wG eSector ym x0])
 | _=>none
theorem yrt:OkD Tryz.prog 181 D_zse:=by unfold D_zse;exact dk N181.den
def zed (a0:Int) (a1:Int):Int:=
 (IntKind.wrap .i64 ((a0.tmod a1)+a1)).tmod a1
namespace N240
theorem DD:DOk Tryz.prog (Go.Ab.DD []):=yc _
theorem den (a0:Int) (a1:Int) (hp0:0<a1):Den Tryz.prog 240 [.int .i64 a0,.int .i64 a1] (.int .i64 (zed a0 a1)):=by
 generalize hR:zed a0 a1=r;unfold zed at hR;refine di Tryz.func240 Tryz.ntmps240 Tryz.results240 ?_;intro c hL hc hk;clear hL;simp only[pars,Nat.zero_add];iterate 2 refine rS ?_
 refine AWP.ret ?_;subst hR;exact es
end N240
def D_zed : DF
 | [x0,x1]=>some (.int .i64 (zed (rdI x0) (rdI x1)),false,[wI .i64 x0,wI .i64 x1,0<(rdI x1)])
 | _=>none
theorem ydo:OkD Tryz.prog 240 D_zed:=by unfold D_zed;exact dk N240.den
def zec (a0:Sector):Int:=
 IntKind.wrap .i64 ((zed (IntKind.wrap .i64 ((IntKind.wrap .i64 (a0.To-a0.From))-1)) 360)+1)
namespace N183
theorem DD:DOk Tryz.prog (Go.Ab.DD [(240,dP D_zed)]):=ya ydo.e <| yc _
theorem dn:type_of% (@D_zed.eq_1):=by and_intros<;>intros<;>rfl
theorem den (a0:Sector)  : Den Tryz.prog 183 [.agg (eSector a0)] (.int .i64 (zec a0)):=by
 generalize hR:zec a0=r;unfold zec at hR;refine di Tryz.func183 Tryz.ntmps183 Tryz.results183 ?_;intro c hL hc hk;obtain⟨hL0,_⟩:=hL;have hw0:bwSector a0:=yq a0 hL0;clear hL0;simp only[pars,Nat.zero_add];iterate 2 refine rS ?_
 refine AWP.ret ?_;subst hR;exact es
end N183
def D_zec : DF
 | [x0]=>some (.int .i64 (zec (rdG ym x0)),false,[wG eSector ym x0])
 | _=>none
theorem y6n:OkD Tryz.prog 183 D_zec:=by unfold D_zec;exact dk N183.den
def zrd (a0:Sector) (a1:Int):Bool:=
 decide ((zed (IntKind.wrap .i64 (a1-a0.From)) 360)<(zec a0))
namespace N182
theorem DD:DOk Tryz.prog (Go.Ab.DD [(183,dP D_zec),(240,dP D_zed)]):=ya y6n.e <| ya ydo.e <| yc _
theorem dn:type_of% (And.intro @D_zec.eq_1 <| @D_zed.eq_1):=by and_intros<;>intros<;>rfl
theorem den (a0:Sector) (a1:Int)  : Den Tryz.prog 182 [.agg (eSector a0),.int .i64 a1] (.bool (zrd a0 a1)):=by
 generalize hR:zrd a0 a1=r;unfold zrd at hR;refine di Tryz.func182 Tryz.ntmps182 Tryz.results182 ?_;intro c hL hc hk;obtain⟨hL0,hL1,_⟩:=hL;have hw0:bwSector a0:=yq a0 hL0;clear hL0 hL1;simp only[pars,Nat.zero_add];refine rS ?_;refine rD 6 ?_;refine AWP.ret ?_;subst hR;exact es
end N182
def D_zrd : DF
 | [x0,x1]=>some (.bool (zrd (rdG ym x0) (rdI x1)),false,[wG eSector ym x0,wI .i64 x1])
 | _=>none
theorem yew:OkD Tryz.prog 182 D_zrd:=by unfold D_zrd;exact dk N182.den
def ycm (a0:(List Sector)) (i1:Nat) (s1:Int) (i2:Nat) (s2:Unit):Except (Bool) (Unit):=
 (bif (((i2:Int) != (i1:Int)) && (zrd (a0.getD i1 default) ((a0.getD i2 default).From)))then .error false else .ok ())
def yej (a0:(List Sector)) (i1:Nat) (s1:Int):Except (Bool) (Int):=
 (bif ((!(zse (a0.getD i1 default))) || (decide (0<(i1:Int)) && decide (((a0.getD i1 default).From)<=((a0.getD ((IntKind.wrap .i64 ((i1:Int)-1)).toNat) default).From))))then .error false else(match yf (ycm a0 i1 s1) (a0.length-0) 0 ()with|.error e=>.error e|.ok s2=>.ok (IntKind.wrap .i64 (s1+(zec (a0.getD i1 default))))))
def zdb (a0:(List Sector)):Bool:=
 (match yf (yej a0) (a0.length-0) 0 0 with|.error e=>e|.ok s1=>((zw (a0.length:Int) 12) && decide (s1<=360)))
namespace N129
theorem DD:DOk Tryz.prog (Go.Ab.DD [(112,dP D_zw),(181,dP D_zse),(182,dP D_zrd),(183,dP D_zec)]):=ya yck.e <| ya yrt.e <| ya yew.e <| ya y6n.e <| yc _
theorem dn:type_of% (And.intro @D_zw.eq_1 <| And.intro @D_zse.eq_1 <| And.intro @D_zrd.eq_1 <| @D_zec.eq_1):=by and_intros<;>intros<;>rfl
theorem den (a0:(List Sector))  : Den Tryz.prog 129 [encL 3 eSector a0] (.bool (zdb a0)):=by
 generalize hR:zdb a0=r;unfold zdb at hR;refine di Tryz.func129 Tryz.ntmps129 Tryz.results129 ?_;intro c hL hc hk;obtain⟨hL0,_⟩:=hL;have hw0:a0.length<9223372036854775808:=Nat.lt_succ_of_le (ye hL0).1;have hw1:∀ v∈a0,bwSector v:=fun v hv=>yq v ((ye hL0).2 v hv)
 clear hL0;simp only[pars,Nat.zero_add];iterate 3 refine rS ?_
 refine AWP.block ?_;generalize hz1:yf (yej a0) (a0.length-0) 0 0=z1 at hR;refine AWP.range (yej a0) (fun i1 s1=>⟨[(0,encL 3 eSector a0),(3,.int .i64 s1),(8,encL 3 eSector a0),(9,.int .i64 (a0.length:Int)),(10,.int .i64 (i1:Int))],[]⟩) (fun i1 s1=>True) (a0.length) 0 0 [] hz1 ot wt sm ?_;clear hz1;intro i1 s1 hi1 hW1 hz1;refine rS ?_;refine AWP.seq ?_;refine AWP.cond rfl (fun hb => ?_) (fun hb => ?_)
 ·have hlt1:i1<a0.length:=ot
  rw[yk hlt1]at hz1;simp only[yej]at hz1;refine rS ?_;refine rD 18 ?_;refine AWP.cond rfl (fun hb => ?_) (fun hb => ?_)
  ·simp only[hb,cond_true]at hz1
   refine rS ?_;refine AWP.ret ?_;subst hz1;dsimp only at hR;subst hR;exact es
  ·simp only[hb,cond_false]at hz1
   refine rS ?_;refine AWP.block ?_;generalize hz2:yf (ycm a0 i1 s1) (a0.length-0) 0 ()=z2 at hz1;refine AWP.range (ycm a0 i1 s1) (fun i2 s2=>⟨[(0,encL 3 eSector a0),(3,.int .i64 s1),(4,.int .i64 (i1:Int)),(5,.ptr 0 0),(8,encL 3 eSector a0),(9,.int .i64 (a0.length:Int)),(10,.int .i64 (i1:Int)),(33,encL 3 eSector a0),(34,.int .i64 (a0.length:Int)),(35,.int .i64 (i2:Int))],[.box [.int .i64 ((a0.getD i1 default).From),.int .i64 ((a0.getD i1 default).To),.str ((a0.getD i1 default).Color)]]⟩) (fun i2 s2=>True) (a0.length) 0 () [0] hz2 ot wt sm ?_;clear hz2;intro i2 s2 hi2 hW2 hz2;refine rS ?_;refine AWP.seq ?_;refine AWP.cond rfl (fun hb => ?_) (fun hb => ?_)
   ·have hlt2:i2<a0.length:=ot
    rw[yk hlt2]at hz2;simp only[ycm]at hz2;iterate 2 refine rS ?_
    refine AWP.cond rfl (fun hb => ?_) (fun hb => ?_)
    ·simp only[hb,cond_true]at hz2
     refine rS ?_;refine AWP.ret ?_;subst hz2;dsimp only at hz1;subst hz1;dsimp only at hR;subst hR;exact es
    ·simp only[hb,cond_false]at hz2
     refine rS ?_;exact⟨_,[0],hlt2,wt,hz2,sm⟩
   ·obtain rfl:i2=a0.length:=ot
    rw[yj (Nat.le_refl _)]at hz2;subst hz2;dsimp only at hz1;refine AWP.exit ?_;refine yb ?_;iterate 2 refine rS ?_
    exact⟨_,[],hlt1,wt,hz1,sm⟩
 ·obtain rfl:i1=a0.length:=ot
  rw[yj (Nat.le_refl _)]at hz1;subst hz1;dsimp only at hR;refine AWP.exit ?_;refine yb ?_;refine rS ?_;refine AWP.ret ?_;subst hR;exact es
end N129
def D_zdb : DF
 | [x0]=>some (.bool (zdb (rdL ym x0)),false,[wL 3 eSector ym x0])
 | _=>none
theorem ywv:OkD Tryz.prog 129 D_zdb:=by unfold D_zdb;exact dk N129.den
def yym (a0:(List Sector)) (i1:Nat) (s1:List UInt8) (i2:Nat) (s2:List UInt8):Except ((List UInt8)) (List UInt8):=
 (bif ((((a0.getD i2 default).Color) == (([87,82,71,89].take ((IntKind.wrap .i64 ((i1:Int)+1)).toNat)).drop i1)) && (!(zm s2 (([87,82,71,89].take ((IntKind.wrap .i64 ((i1:Int)+1)).toNat)).drop i1))))then .ok (s2++(([87,82,71,89].take ((IntKind.wrap .i64 ((i1:Int)+1)).toNat)).drop i1))else .ok s2)
def ykj (a0:(List Sector)) (i1:Nat) (s1:List UInt8):Except ((List UInt8)) (List UInt8):=
 (match yf (yym a0 i1 s1) (a0.length-0) 0 s1 with|.error e=>.error e|.ok s2=>.ok s2)
def zeb (a0:(List Sector)):(List UInt8):=
 (match yf (ykj a0) ([87,82,71,89].length-0) 0 []with|.error e=>e|.ok s1=>s1)
namespace N130
theorem DD:DOk Tryz.prog (Go.Ab.DD [(131,dP D_zm)]):=ya yms.e <| yc _
theorem dn:type_of% (@D_zm.eq_1):=by and_intros<;>intros<;>rfl
theorem o0 {p:Prop} (h:p:=by(first|(have h4:=hq4 i1;have h1:=hW1;have h2:=hW2;and_intros<;>first|omega|exact ywp (by omega)));first|done|fail):p:=h
theorem den (a0:(List Sector)) (hb0:a0.length<1099511627776) (hb1:∀ v∈a0,bdSector v):Den Tryz.prog 130 [encL 3 eSector a0] (.str (zeb a0)):=by
 generalize hR:zeb a0=r;unfold zeb at hR;refine di Tryz.func130 Tryz.ntmps130 Tryz.results130 ?_;intro c hL hc hk;obtain⟨hL0,_⟩:=hL;have hw0:a0.length<9223372036854775808:=Nat.lt_succ_of_le (ye hL0).1;have hw1:∀ v∈a0,bwSector v:=fun v hv=>yq v ((ye hL0).2 v hv)
 clear hL0;simp only[pars,Nat.zero_add];have hq4:=ynv;iterate 3 refine rS ?_
 refine AWP.block ?_;generalize hz1:yf (ykj a0) ([87,82,71,89].length-0) 0 []=z1 at hR;refine AWP.range (ykj a0) (fun i1 s1=>⟨[(0,encL 3 eSector a0),(3,.str s1),(8,.ptr 0 0)],[.it [87,82,71,89] i1 (decide (i1<[87,82,71,89].length))]⟩) (fun i1 s1=>s1.length<=1099511627776 * i1) ([87,82,71,89].length) 0 [] [0] hz1 ot (by(simp)) sm ?_;clear hz1;intro i1 s1 hi1 hW1 hz1;refine AWP.seq ?_;by_cases hlt1:i1<[87,82,71,89].length
 ·rw[yk hlt1]at hz1;simp only[ykj]at hz1
  rw[decide_eq_true hlt1];refine rS ?_;refine AWP.seq ?_;refine AWP.cond rfl (fun hb => ?_) (fun hb=>nomatch hb);iterate 2 refine rS ?_
  refine AWP.block ?_;generalize hz2:yf (yym a0 i1 s1) (a0.length-0) 0 s1=z2 at hz1;refine AWP.range (yym a0 i1 s1) (fun i2 s2=>⟨[(0,encL 3 eSector a0),(3,.str s2),(4,.int .i64 (i1:Int)),(8,.ptr 0 0),(12,encL 3 eSector a0),(13,.int .i64 (a0.length:Int)),(14,.int .i64 (i2:Int))],[.it [87,82,71,89] (i1+1) (decide (i1+1<[87,82,71,89].length))]⟩) (fun i2 s2=>s2.length<=1099511627776 * i1+i2) (a0.length) 0 s1 [0] hz2 ot (by(exact hW1)) sm ?_;clear hz2;intro i2 s2 hi2 hW2 hz2;refine rS ?_;refine AWP.seq ?_;refine AWP.cond rfl (fun hb => ?_) (fun hb => ?_)
  ·have hlt2:i2<a0.length:=ot
   rw[yk hlt2]at hz2;simp only[yym]at hz2;iterate 3 refine rS ?_
   refine AWP.cond rfl (fun hb => ?_) (fun hb => ?_)
   ·simp only[hb,cond_true]at hz2
    iterate 2 refine rS ?_
    exact⟨_,[0],hlt2,by(have h4:=hq4 i1;have h2:=hW2;simp only[ln]at *;omega),hz2,sm⟩
   ·simp only[hb,cond_false]at hz2
    refine rS ?_;exact⟨_,[0],hlt2,by(have h4:=hq4 i1;have h2:=hW2;simp only[ln]at *;omega),hz2,sm⟩
  ·obtain rfl:i2=a0.length:=ot
   rw[yj (Nat.le_refl _)]at hz2;subst hz2;dsimp only at hz1;refine AWP.exit ?_;refine yb ?_;exact⟨_,[0],hlt1,by(have h1:=hW1;omega),hz1,sm⟩
 ·obtain rfl:i1=[87,82,71,89].length:=by omega
  rw[yj (Nat.le_refl _)]at hz1;subst hz1;dsimp only at hR;simp only[Nat.lt_irrefl,decide_false];refine rS ?_;refine AWP.seq ?_;refine AWP.cond rfl (fun hb=>nomatch hb) (fun hb => ?_);refine AWP.exit ?_;refine yb ?_;refine rS ?_;refine AWP.ret ?_;subst hR;exact es
end N130
def D_zeb : DF
 | [x0]=>some (.str (zeb (rdL ym x0)),false,[wL 3 eSector ym x0,(rdL ym x0).length<1099511627776,∀ v∈(rdL ym x0),bdSector v])
 | _=>none
theorem ytt:OkD Tryz.prog 130 D_zeb:=by unfold D_zeb;exact dk N130.den
def zee (a0:Int):Bool:=
 (za a0 1 9)
namespace N155
theorem DD:DOk Tryz.prog (Go.Ab.DD [(101,dP D_za)]):=ya y9b.e <| yc _
theorem dn:type_of% (@D_za.eq_1):=by and_intros<;>intros<;>rfl
theorem ol:type_of% (@za.eq_1):=@za.eq_1
theorem den (a0:Int)  : Den Tryz.prog 155 [.int .i64 a0] (.bool (zee a0)):=by
 generalize hR:zee a0=r;unfold zee at hR;refine di Tryz.func155 Tryz.ntmps155 Tryz.results155 ?_;intro c hL hc hk;clear hL;simp only[pars,Nat.zero_add];iterate 2 refine rS ?_
 refine AWP.ret ?_;subst hR;exact es
end N155
def D_zee : DF
 | [x0]=>some (.bool (zee (rdI x0)),false,[wI .i64 x0])
 | _=>none
theorem y7o:OkD Tryz.prog 155 D_zee:=by unfold D_zee;exact dk N155.den
def zfe (a0:Int) (a1:Int):Bool:=
 (decide (0<=a0) && decide (a0<a1))
namespace N260
theorem DD:DOk Tryz.prog (Go.Ab.DD []):=yc _
theorem den (a0:Int) (a1:Int)  : Den Tryz.prog 260 [.int .i64 a0,.int .i64 a1] (.bool (zfe a0 a1)):=by
 generalize hR:zfe a0 a1=r;unfold zfe at hR;refine di Tryz.func260 Tryz.ntmps260 Tryz.results260 ?_;intro c hL hc hk;clear hL;simp only[pars,Nat.zero_add];iterate 2 refine rS ?_
 refine AWP.ret ?_;subst hR;exact es
end N260
def D_zfe : DF
 | [x0,x1]=>some (.bool (zfe (rdI x0) (rdI x1)),false,[wI .i64 x0,wI .i64 x1])
 | _=>none
theorem yrv:OkD Tryz.prog 260 D_zfe:=by unfold D_zfe;exact dk N260.den
def zfc (a0:Int) (a1:(List (List UInt8))):(List UInt8):=
 (bif (!(zfe a0 (a1.length:Int)))then[]else(a1.getD ((a0).toNat) default))
namespace N216
theorem DD:DOk Tryz.prog (Go.Ab.DD [(260,dP D_zfe)]):=ya yrv.e <| yc _
theorem dn:type_of% (@D_zfe.eq_1):=by and_intros<;>intros<;>rfl
theorem ol:type_of% (@zfe.eq_1):=@zfe.eq_1
theorem den (a0:Int) (a1:(List (List UInt8)))  : Den Tryz.prog 216 [.int .i64 a0,encL 1 eS a1] (.str (zfc a0 a1)):=by
 generalize hR:zfc a0 a1=r;unfold zfc at hR;refine di Tryz.func216 Tryz.ntmps216 Tryz.results216 ?_;intro c hL hc hk;obtain⟨hL0,hL1,_⟩:=hL;have hw0:a1.length<9223372036854775808:=Nat.lt_succ_of_le (ye hL1).1;have hw1:∀ v∈a1,bwS v:=fun v hv=>ytr v ((ye hL1).2 v hv)
 clear hL0 hL1;simp only[pars,Nat.zero_add];iterate 2 refine rS ?_
 refine AWP.cond rfl (fun hb => ?_) (fun hb => ?_)
 ·replace hR:=ct hR
  refine rS ?_;refine AWP.ret ?_;subst hR;exact es
 ·replace hR:=cf hR
  refine rS ?_;refine AWP.ret ?_;subst hR;exact es
end N216
def D_zfc : DF
 | [x0,x1]=>some (.str (zfc (rdI x0) (rdL dS x1)),false,[wI .i64 x0,wL 1 eS dS x1])
 | _=>none
theorem y1j:OkD Tryz.prog 216 D_zfc:=by unfold D_zfc;exact dk N216.den
def zge (a0:Int):(List UInt8):=
 (zfc a0 ([[],[82],[71],[66,89],[66,89,66],[89,66],[89,66,89],[66,82,66],[82,87],[89]]:List (List UInt8)))
namespace N156
theorem DD:DOk Tryz.prog (Go.Ab.DD [(216,dP D_zfc)]):=ya y1j.e <| yc _
theorem dn:type_of% (@D_zfc.eq_1):=by and_intros<;>intros<;>rfl
theorem lx {p:Prop} (h:p:=by(exact lxx);first|done|fail):p:=h
theorem den (a0:Int)  : Den Tryz.prog 156 [.int .i64 a0] (.str (zge a0)):=by
 generalize hR:zge a0=r;unfold zge at hR;refine di Tryz.func156 Tryz.ntmps156 Tryz.results156 ?_;intro c hL hc hk;clear hL;simp only[pars,Nat.zero_add];iterate 2 refine rS ?_
 refine AWP.ret ?_;subst hR;exact es
end N156
def D_zge : DF
 | [x0]=>some (.str (zge (rdI x0)),false,[wI .i64 x0])
 | _=>none
theorem ywo:OkD Tryz.prog 156 D_zge:=by unfold D_zge;exact dk N156.den
theorem yio {P:List UInt8->Prop} (n:Int) (l:List (List UInt8)) (h0:P []) (h:∀ y∈l,P y):P (zfc n l):=by
 unfold zfc
 cases hb:zfe n (l.length:Int)with
 | false=>exact h0
 | true=>
  simp only[Bool.not_true,cond_false];rw[List.getD_eq_getElem?_getD];by_cases hi:n.toNat<l.length
  ·rw[List.getElem?_eq_getElem hi];exact h _ (List.getElem_mem hi)
  ·rw[List.getElem?_eq_none (by omega)];exact h0
def zlc (a0:Int):(List (List UInt8)):=
 (zof (zfc a0 ([[],[99,97,110,32,112,105,108,108,97,114,32,115,112,97,114],[99,111,110,101,32,112,105,108,108,97,114,32,115,112,97,114],[112,105,108,108,97,114,32,115,112,97,114],[112,105,108,108,97,114,32,115,112,97,114],[112,105,108,108,97,114,32,115,112,97,114],[112,105,108,108,97,114,32,115,112,97,114],[112,105,108,108,97,114,32,115,112,97,114],[115,112,104,101,114,101,32,112,105,108,108,97,114,32,115,112,97,114],[99,97,110,32,99,111,110,101,32,112,105,108,108,97,114,32,115,112,97,114,32,115,112,104,101,114,101]]:List (List UInt8))))
namespace N158
theorem DD:DOk Tryz.prog (Go.Ab.DD [(216,dP D_zfc),(218,dP D_zof)]):=ya y1j.e <| ya yzv.e <| yc _
theorem dn:type_of% (And.intro @D_zfc.eq_1 <| @D_zof.eq_1):=by and_intros<;>intros<;>rfl
theorem o0 {p:Prop} (h:p:=by(first|(and_intros<;>first|exact yio (P:=fun y=>y.length<=1048576) _ _ (by simp) (by simp)|exact yio (P:=fun y=>∀ x∈y,x.toNat<128) _ _ (by simp) (by simp)));first|done|fail):p:=h
theorem lx {p:Prop} (h:p:=by(exact lxx);first|done|fail):p:=h
theorem den (a0:Int)  : Den Tryz.prog 158 [.int .i64 a0] (ownL 9 1 eS (zlc a0)):=by
 generalize hR:zlc a0=r;unfold zlc at hR;refine di Tryz.func158 Tryz.ntmps158 Tryz.results158 ?_;intro c hL hc hk;clear hL;simp only[pars,Nat.zero_add];iterate 2 refine rS ?_
 refine AWP.ret ?_;subst hR;exact es
end N158
def D_zlc : DF
 | [x0]=>some (ownL 9 1 eS (zlc (rdI x0)),false,[wI .i64 x0])
 | _=>none
def Dz_zlc : DF
 | [x0]=>some (ownL 9 1 eS (zlc (rdI x0)),true,[wI .i64 x0])
 | _=>none
theorem ypt:OkD Tryz.prog 158 D_zlc:=by unfold D_zlc;exact dk N158.den
theorem ycr:OkD Tryz.prog 158 Dz_zlc:=by unfold Dz_zlc;exact dk N158.den
def zhe (a0:Int):(List UInt8):=
 (zfc a0 ([[],[99,97,110],[99,111,110,101],[117,112],[98,97,115,101],[100,111,119,110],[112,111,105,110,116],[98,97,108,108,115],[98,97,108,108],[99,114,111,115,115]]:List (List UInt8)))
namespace N159
theorem DD:DOk Tryz.prog (Go.Ab.DD [(216,dP D_zfc)]):=ya y1j.e <| yc _
theorem dn:type_of% (@D_zfc.eq_1):=by and_intros<;>intros<;>rfl
theorem lx {p:Prop} (h:p:=by(exact lxx);first|done|fail):p:=h
theorem den (a0:Int)  : Den Tryz.prog 159 [.int .i64 a0] (.str (zhe a0)):=by
 generalize hR:zhe a0=r;unfold zhe at hR;refine di Tryz.func159 Tryz.ntmps159 Tryz.results159 ?_;intro c hL hc hk;clear hL;simp only[pars,Nat.zero_add];iterate 2 refine rS ?_
 refine AWP.ret ?_;subst hR;exact es
end N159
def D_zhe : DF
 | [x0]=>some (.str (zhe (rdI x0)),false,[wI .i64 x0])
 | _=>none
theorem yoo:OkD Tryz.prog 159 D_zhe:=by unfold D_zhe;exact dk N159.den
def zie (a0:Mark):Bool:=
 (bif (a0.Kind == 0 && (a0.Colors == [] && (a0.Shape == [] && a0.Topmark == [])))then true else((((zee a0.Kind) && (a0.Colors == (zge a0.Kind))) && (zqd (zlc a0.Kind) a0.Shape)) && ((a0.Topmark == []) || (a0.Topmark == (zhe a0.Kind)))))
namespace N106
theorem DD:DOk Tryz.prog (Go.Ab.DD [(155,dP D_zee),(156,dP D_zge),(157,dP D_zqd),(158,dP D_zlc),(159,dP D_zhe)]):=ya y7o.e <| ya ywo.e <| ya y6o.e <| ya ypt.e <| ya yoo.e <| yc _
theorem DZ:DOk Tryz.prog (Go.Ab.DD [(155,dP D_zee),(156,dP D_zge),(157,dP D_zqd),(158,dP Dz_zlc),(159,dP D_zhe)]):=ya y7o.e <| ya ywo.e <| ya y6o.e <| ya ycr.e <| ya yoo.e <| yc _
theorem dn:type_of% (And.intro @D_zee.eq_1 <| And.intro @D_zge.eq_1 <| And.intro @D_zqd.eq_1 <| And.intro @D_zlc.eq_1 <| And.intro @D_zhe.eq_1 <| @Dz_zlc.eq_1):=by and_intros<;>intros<;>rfl
theorem den (a0:Mark) (hb0:bdMark a0):Den Tryz.prog 106 [.agg (eMark a0)] (.bool (zie a0)):=by
 generalize hR:zie a0=r;unfold zie at hR;refine di Tryz.func106 Tryz.ntmps106 Tryz.results106 ?_;intro c hL hc hk;obtain⟨hL0,_⟩:=hL;have hw0:bwMark a0:=yrc a0 hL0;clear hL0;simp only[pars,Nat.zero_add];iterate 2 refine rS ?_
 refine AWP.cond rfl (fun hb => ?_) (fun hb => ?_)
 ·replace hR:=ct hR
  refine rS ?_;refine AWP.ret ?_;subst hR;exact es
 ·replace hR:=cf hR
  refine rZ 32 ?_;refine AWP.ret ?_;subst hR;exact es
end N106
def D_zie : DF
 | [x0]=>some (.bool (zie (rdG y7d x0)),false,[wG eMark y7d x0,bdMark (rdG y7d x0)])
 | _=>none
theorem y8w:OkD Tryz.prog 106 D_zie:=by unfold D_zie;exact dk N106.den
def yaj (a0:(List Int)) (a1:(List Int)) (i1:Nat) (s1:Unit):Except (Bool) (Unit):=
 (bif ((a0.getD i1 default) != (a1.getD i1 default))then .error false else .ok ())
def zmc (a0:(List Int)) (a1:(List Int)):Bool:=
 (bif ((a0.length:Int) != (a1.length:Int))then false else(match yf (yaj a0 a1) (a0.length-0) 0 ()with|.error e=>e|.ok s1=>true))
namespace N219
theorem DD:DOk Tryz.prog (Go.Ab.DD []):=yc _
theorem den (a0:(List Int)) (a1:(List Int))  : Den Tryz.prog 219 [encL 1 yl a0,encL 1 yl a1] (.bool (zmc a0 a1)):=by
 generalize hR:zmc a0 a1=r;unfold zmc at hR;refine di Tryz.func219 Tryz.ntmps219 Tryz.results219 ?_;intro c hL hc hk;obtain⟨hL0,hL1,_⟩:=hL;have hw0:a0.length<9223372036854775808:=Nat.lt_succ_of_le (ye hL0).1;have hw1:a1.length<9223372036854775808:=Nat.lt_succ_of_le (ye hL1).1;clear hL0 hL1;simp only[pars,Nat.zero_add];iterate 2 refine rS ?_
 refine AWP.cond rfl (fun hb => ?_) (fun hb => ?_)
 ·replace hR:=ct hR
  refine rS ?_;refine AWP.ret ?_;subst hR;exact es
 ·replace hR:=cf hR
  refine rS ?_;refine AWP.block ?_;generalize hz1:yf (yaj a0 a1) (a0.length-0) 0 ()=z1 at hR;refine AWP.range (yaj a0 a1) (fun i1 s1=>⟨[(0,encL 1 yl a0),(1,encL 1 yl a1),(12,.int .i64 (a0.length:Int)),(13,.int .i64 (i1:Int))],[]⟩) (fun i1 s1=>True) (a0.length) 0 () [] hz1 ot wt sm ?_;clear hz1;intro i1 s1 hi1 hW1 hz1;refine rS ?_;refine AWP.seq ?_;refine AWP.cond rfl (fun hb => ?_) (fun hb => ?_)
  ·have hlt1:i1<a0.length:=ot
   rw[yk hlt1]at hz1;simp only[yaj]at hz1;refine rS ?_;refine rD 8 ?_;refine AWP.cond rfl (fun hb => ?_) (fun hb => ?_)
   ·simp only[hb,cond_true]at hz1
    refine rS ?_;refine AWP.ret ?_;subst hz1;dsimp only at hR;subst hR;exact es
   ·simp only[hb,cond_false]at hz1
    refine rS ?_;exact⟨_,[],hlt1,wt,hz1,sm⟩
  ·obtain rfl:i1=a0.length:=ot
   rw[yj (Nat.le_refl _)]at hz1;subst hz1;dsimp only at hR;refine AWP.exit ?_;refine yb ?_;refine rS ?_;refine AWP.ret ?_;subst hR;exact es
end N219
def D_zmc : DF
 | [x0,x1]=>some (.bool (zmc (rdL yab x0) (rdL yab x1)),false,[wL 1 yl yab x0,wL 1 yl yab x1])
 | _=>none
theorem yru:OkD Tryz.prog 219 D_zmc:=by unfold D_zmc;exact dk N219.den
theorem ysi (a b:List Int):zmc a b=decide (a=b):=by
 unfold zmc;by_cases hl:a.length=b.length
 ·have h1:((a.length:Int) != (b.length:Int))=false:=by simp[hl]
  rw[h1,cond_false,y7b (b:=yaj a b) (fun j => !decide (a.getD j default=b.getD j default)) false (fun j u _ _=>by simp only[yaj,ned])];simp only[Nat.sub_zero,Nat.zero_add];rw[ybl a b hl];by_cases h:a=b<;>simp[h]
 ·have h1:((a.length:Int) != (b.length:Int))=true:=by simp;omega
  have h2:¬ a=b:=fun e=>hl (by rw[e])
  rw[h1,cond_true,decide_eq_false h2]
def zff (a0:Int):Bool:=
 (za a0 1 9999)
namespace N104
theorem DD:DOk Tryz.prog (Go.Ab.DD [(101,dP D_za)]):=ya y9b.e <| yc _
theorem dn:type_of% (@D_za.eq_1):=by and_intros<;>intros<;>rfl
theorem ol:type_of% (@za.eq_1):=@za.eq_1
theorem den (a0:Int)  : Den Tryz.prog 104 [.int .i64 a0] (.bool (zff a0)):=by
 generalize hR:zff a0=r;unfold zff at hR;refine di Tryz.func104 Tryz.ntmps104 Tryz.results104 ?_;intro c hL hc hk;clear hL;simp only[pars,Nat.zero_add];iterate 2 refine rS ?_
 refine AWP.ret ?_;subst hR;exact es
end N104
def D_zff : DF
 | [x0]=>some (.bool (zff (rdI x0)),false,[wI .i64 x0])
 | _=>none
theorem yqt:OkD Tryz.prog 104 D_zff:=by unfold D_zff;exact dk N104.den
def zgf (a0:Int):Bool:=
 (za a0 0 3000)
namespace N105
theorem DD:DOk Tryz.prog (Go.Ab.DD [(101,dP D_za)]):=ya y9b.e <| yc _
theorem dn:type_of% (@D_za.eq_1):=by and_intros<;>intros<;>rfl
theorem ol:type_of% (@za.eq_1):=@za.eq_1
theorem den (a0:Int)  : Den Tryz.prog 105 [.int .i64 a0] (.bool (zgf a0)):=by
 generalize hR:zgf a0=r;unfold zgf at hR;refine di Tryz.func105 Tryz.ntmps105 Tryz.results105 ?_;intro c hL hc hk;clear hL;simp only[pars,Nat.zero_add];iterate 2 refine rS ?_
 refine AWP.ret ?_;subst hR;exact es
end N105
def D_zgf : DF
 | [x0]=>some (.bool (zgf (rdI x0)),false,[wI .i64 x0])
 | _=>none
theorem y2t:OkD Tryz.prog 105 D_zgf:=by unfold D_zgf;exact dk N105.den
def zhf (a0:Character) (a1:Character):Bool:=
 (((((a0.Kind == a1.Kind) && (zmc a0.Group a1.Group)) && (a0.Letter == a1.Letter)) && (a0.Colors == a1.Colors)) && (a0.Period == a1.Period))
namespace N160
theorem DD:DOk Tryz.prog (Go.Ab.DD [(219,dP D_zmc)]):=ya yru.e <| yc _
theorem dn:type_of% (@D_zmc.eq_1):=by and_intros<;>intros<;>rfl
theorem den (a0:Character) (a1:Character)  : Den Tryz.prog 160 [.agg (eCharacter a0),.agg (eCharacter a1)] (.bool (zhf a0 a1)):=by
 generalize hR:zhf a0 a1=r;unfold zhf at hR;refine di Tryz.func160 Tryz.ntmps160 Tryz.results160 ?_;intro c hL hc hk;obtain⟨hL0,hL1,_⟩:=hL;have hw0:bwCharacter a0:=yn a0 hL0;have hw1:bwCharacter a1:=yn a1 hL1;clear hL0 hL1;simp only[pars,Nat.zero_add];iterate 2 refine rS ?_
 refine AWP.ret ?_;subst hR;exact es
end N160
def D_zhf : DF
 | [x0,x1]=>some (.bool (zhf (rdG yd x0) (rdG yd x1)),false,[wG eCharacter yd x0,wG eCharacter yd x1])
 | _=>none
theorem yuu:OkD Tryz.prog 160 D_zhf:=by unfold D_zhf;exact dk N160.den
def zte (a0:Aid):Bool:=
 (((zhf a0.Light ({ Kind:=0,Group:=[],Letter:=[],Colors:=[],Period:=0:Character })) && ((a0.Sectors.length:Int) == 0)) && (a0.Intensity == 0))
namespace N107
theorem DD:DOk Tryz.prog (Go.Ab.DD [(160,dP D_zhf)]):=ya yuu.e <| yc _
theorem dn:type_of% (@D_zhf.eq_1):=by and_intros<;>intros<;>rfl
theorem den (a0:Aid)  : Den Tryz.prog 107 [.agg (eAid a0)] (.bool (zte a0)):=by
 generalize hR:zte a0=r;unfold zte at hR;refine di Tryz.func107 Tryz.ntmps107 Tryz.results107 ?_;intro c hL hc hk;obtain⟨hL0,_⟩:=hL;have hw0:bwAid a0:=y9 a0 hL0;clear hL0;simp only[pars,Nat.zero_add];iterate 2 refine rS ?_
 refine AWP.ret ?_;subst hR;exact es
end N107
def D_zte : DF
 | [x0]=>some (.bool (zte (rdG dAid x0)),false,[wG eAid dAid x0])
 | _=>none
theorem ykv:OkD Tryz.prog 107 D_zte:=by unfold D_zte;exact dk N107.den
def zif (a0:Int):Bool:=
 (za a0 1 100000000)
namespace N128
theorem DD:DOk Tryz.prog (Go.Ab.DD [(101,dP D_za)]):=ya y9b.e <| yc _
theorem dn:type_of% (@D_za.eq_1):=by and_intros<;>intros<;>rfl
theorem ol:type_of% (@za.eq_1):=@za.eq_1
theorem den (a0:Int)  : Den Tryz.prog 128 [.int .i64 a0] (.bool (zif a0)):=by
 generalize hR:zif a0=r;unfold zif at hR;refine di Tryz.func128 Tryz.ntmps128 Tryz.results128 ?_;intro c hL hc hk;clear hL;simp only[pars,Nat.zero_add];iterate 2 refine rS ?_
 refine AWP.ret ?_;subst hR;exact es
end N128
def D_zif : DF
 | [x0]=>some (.bool (zif (rdI x0)),false,[wI .i64 x0])
 | _=>none
theorem yuv:OkD Tryz.prog 128 D_zif:=by unfold D_zif;exact dk N128.den
end Go.Ab
