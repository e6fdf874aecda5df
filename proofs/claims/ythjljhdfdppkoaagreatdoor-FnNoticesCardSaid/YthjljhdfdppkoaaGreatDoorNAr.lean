/- A part of a proof: walks of functions and lemmas of our own. No conditions. -/
import Derived.Test.YthjljhdfdppkoaaGreatDoorNAl
import Derived.Test.YthjljhdfdppkoaaGreatDoorNAq
import Derived.Test.YthjljhdfdppkoaaGreatDoorNAo
import Derived.Test.YthjljhdfdppkoaaGreatDoorNAi
set_option linter.unusedSectionVars false
set_option linter.unusedVariables false
set_option linter.unusedSimpArgs false
set_option maxHeartbeats 1000000
namespace Go.Ab
open Go Go.Proofs
def ypy (a0:Character) (i1:Nat) (s1:List Int):Except ((List Int)) (List Int):=
 (bif decide (0<(i1:Int))then(bif ((((zic a0.Letter).getD i1 0).toNat:Int) == 45)then .ok ((s1++([(zbb a0.Kind).2.1]:List Int))++([IntKind.wrap .i64 (3 * ((zbb a0.Kind).1))]:List Int))else .ok ((s1++([(zbb a0.Kind).2.1]:List Int))++([(zbb a0.Kind).1]:List Int)))else(bif ((((zic a0.Letter).getD i1 0).toNat:Int) == 45)then .ok (s1++([IntKind.wrap .i64 (3 * ((zbb a0.Kind).1))]:List Int))else .ok (s1++([(zbb a0.Kind).1]:List Int))))
def ykz (a0:Character) (i2:Nat) (s2:List Int) (i3:Nat) (s3:List Int):Except ((List Int)) (List Int):=
 (bif decide (0<(i3:Int))then .ok ((s3++([(zbb a0.Kind).2.1]:List Int))++([(zbb a0.Kind).1]:List Int))else(bif decide (0<(i2:Int))then .ok ((s3++([IntKind.wrap .i64 (((zbb a0.Kind).2.1)+20)]:List Int))++([(zbb a0.Kind).1]:List Int))else .ok (s3++([(zbb a0.Kind).1]:List Int))))
def ydz (a0:Character) (i2:Nat) (s2:List Int):Except ((List Int)) (List Int):=
 (match yh (ykz a0 i2 s2) (((([1]:List Int).getD i2 default)).toNat-0) 0 s2 with|.error e=>.error e|.ok s3=>.ok s3)
def yay (a0:Character) (i4:Nat) (s4:List Int) (i5:Nat) (s5:List Int):Except ((List Int)) (List Int):=
 (bif decide (0<(i5:Int))then .ok ((s5++([(zbb a0.Kind).2.1]:List Int))++([(zbb a0.Kind).1]:List Int))else(bif decide (0<(i4:Int))then .ok ((s5++([IntKind.wrap .i64 (((zbb a0.Kind).2.1)+20)]:List Int))++([(zbb a0.Kind).1]:List Int))else .ok (s5++([(zbb a0.Kind).1]:List Int))))
def y5y (a0:Character) (i4:Nat) (s4:List Int):Except ((List Int)) (List Int):=
 (match yh (yay a0 i4 s4) (((a0.Group.getD i4 default)).toNat-0) 0 s4 with|.error e=>.error e|.ok s5=>.ok s5)
def zy (a0:Character):(List Int):=
 (bif (a0.Kind == 8)then(match yh (ypy a0) ((zic a0.Letter).length-0) 0 ([]:List Int)with|.error e=>e|.ok s1=>s1)else(bif ((a0.Group.length:Int) == 0)then(match yh (ydz a0) (1-0) 0 ([]:List Int)with|.error e=>e|.ok s2=>(bif (a0.Letter != [])then s2++([(zbb a0.Kind).2.1,20]:List Int)else s2))else(match yh (y5y a0) (a0.Group.length-0) 0 ([]:List Int)with|.error e=>e|.ok s4=>(bif (a0.Letter != [])then s4++([(zbb a0.Kind).2.1,20]:List Int)else s4))))
namespace N243
theorem DD:DOk Tryz.prog (Go.Ab.DD [(239,dP D_zic),(241,dP D_zbb)]):=ya y7w.e <| ya yuv.e <| yf _
abbrev dn:=cj @D_zic.eq_1 <| @D_zbb.eq_1
theorem o2 {p:Prop} (h:p:=by(first|(and_intros<;>first|decide|omega|(simp;(first|done|fail))|(rw[IntKind.wrap_i64];have:=hg9 i4;omega)|(rw[IntKind.wrap_i64];have:=hg1 i2;omega)|(rw[IntKind.wrap_i64];omega)|(intro i hi;exact ygi _ _ i hi)|(intro i hi;exact yot _ _ _ i hi)));first|done|fail):p:=h
theorem o3 {p:Prop} (h:p:=by(first|(refine⟨⟨Nat.le_refl _,fun i hi=>ynq _ _ _ i hi⟩,.inl fun i hi=>by rw[yjk _ _ _ i hi];simp[y5b,yac],by simp,fun i hi=>by rw[yjk _ _ _ i hi];exact y6 _⟩));first|done|fail):p:=h
theorem lx {p:Prop} (h:p:=by(exact lxx);first|done|fail):p:=h
set_option maxHeartbeats 1000000 in
set_option maxRecDepth 20000 in
theorem den (a0:Character) (hb0:bdCharacter a0) (hp0:a0.Group.length<=4) (hp1:∀ v∈a0.Group,v<=9):Den Tryz.prog 243 [.agg (yj a0)] (ownL 2 1 yx (zy a0)):=by
 generalize hR:zy a0=r;unfold zy at hR;refine di Tryz.func243 Tryz.ntmps243 Tryz.results243 ?_;intro c hL hc hk;obtain⟨hL0,_⟩:=hL;have hw0:bwCharacter a0:=yv a0 hL0;clear hL0;simp only[pars,Nat.zero_add];have hg9:∀ i:Nat,a0.Group.getD i default<=9:=fun i=>y6o hp1 i
 have hs9:=yi0 a0.Letter;have hs8:=y2t a0.Letter;have hg1:∀ i:Nat,([1]:List Int).getD i default<=9:=fun i=>y6o (by simp) i
 iterate 3 refine rS ?_
 refine AWP.cond rfl (fun hb => ?_) (fun hb => ?_)
 ·replace hR:=ct hR
  iterate 2 refine rS ?_
  refine AWP.block ?_;refine AWP.lensT 27 rfl (fun hLn1 => ?_);generalize hz1:yh (ypy a0) ((zic a0.Letter).length-0) 0 ([]:List Int)=z1 at hR;refine AWP.range (ypy a0) (fun i1 s1=>⟨[(3,.int .i64 ((zbb a0.Kind).1)),(4,.int .i64 ((zbb a0.Kind).2.1)),(6,.ref 0 1 0 s1.length),(28,.ptr 1 0)],[.arr 2 1 s1.length (fun j=>yx (s1.getD j default)),.it (zic a0.Letter) i1 (decide (i1<(zic a0.Letter).length))]⟩) (fun i1 s1=>s1.length<=([]:List Int).length+2 * i1/\s1.length<=2 * i1) ((zic a0.Letter).length) 0 ([]:List Int) [1,2] hz1 ot wt sm ?_;clear hz1;intro i1 s1 hi1 hW1 hz1;refine AWP.seq ?_;by_cases hlt1:i1<(zic a0.Letter).length
  ·rw[yl hlt1]at hz1;simp only[ypy]at hz1
   rw[decide_eq_true hlt1];refine rS ?_;refine AWP.seq ?_;refine AWP.cond rfl (fun hb => ?_) (fun hb=>by cases hb);iterate 2 refine rS ?_
   refine AWP.cond rfl (fun hb => ?_) (fun hb => ?_)
   ·simp only[hb,cond_true]at hz1
    iterate 2 refine rS ?_
    refine AWP.cond rfl (fun hb => ?_) (fun hb => ?_)
    ·simp only[hb,cond_true]at hz1
     refine rS ?_;exact⟨_,[5,1],hlt1,wt,hz1,sm⟩
    ·simp only[hb,cond_false]at hz1
     refine rS ?_;exact⟨_,[5,1],hlt1,wt,hz1,sm⟩
   ·simp only[hb,cond_false]at hz1
    refine rS ?_;refine AWP.cond rfl (fun hb => ?_) (fun hb => ?_)
    ·simp only[hb,cond_true]at hz1
     refine rS ?_;exact⟨_,[3,1],hlt1,wt,hz1,sm⟩
    ·simp only[hb,cond_false]at hz1
     refine rS ?_;exact⟨_,[3,1],hlt1,wt,hz1,sm⟩
  ·obtain rfl:i1=(zic a0.Letter).length:=by omega
   rw[yk (Nat.le_refl _)]at hz1;subst hz1;dsimp only at hR;simp only[Nat.lt_irrefl,decide_false];refine rS ?_;refine AWP.seq ?_;refine AWP.cond rfl (fun hb=>by cases hb) (fun hb => ?_);refine AWP.exit ?_;refine yd ?_;refine rS ?_;refine AWP.ret ?_;subst hR;exact es
 ·replace hR:=cf hR
  iterate 2 refine rS ?_
  refine AWP.cond rfl (fun hb => ?_) (fun hb => ?_)
  ·replace hR:=ct hR
   iterate 3 refine rS ?_
   refine AWP.block ?_;generalize hz2:yh (ydz a0) (1-0) 0 ([]:List Int)=z2 at hR;refine AWP.range (ydz a0) (fun i2 s2=>⟨[(1,.ptr 0 0),(3,.int .i64 ((zbb a0.Kind).1)),(4,.int .i64 ((zbb a0.Kind).2.1)),(10,.ref 1 1 0 s2.length),(58,.ref 2 1 0 1),(59,.int .i64 1),(60,.int .i64 (i2:Int))],[.box [.int .i64 a0.Kind,encL 1 yx a0.Group,.str a0.Letter,.str a0.Colors,.int .i64 a0.Period],.arr 2 1 s2.length (fun j=>yx (s2.getD j default)),.arr 2 1 ([1]:List Int).length (fun j=>yx (([1]:List Int).getD j default))]⟩) (fun i2 s2=>s2.length<=18 * i2) (1) 0 ([]:List Int) [0,2,1] hz2 ot wt sm ?_;clear hz2;intro i2 s2 hi2 hW2 hz2;refine rS ?_;refine AWP.seq ?_;refine AWP.cond rfl (fun hb => ?_) (fun hb => ?_)
   ·have hlt2:i2<1:=ot
    rw[yl hlt2]at hz2;simp only[ydz]at hz2;iterate 2 refine rS ?_
    refine AWP.block ?_;generalize hz3:yh (ykz a0 i2 s2) (((([1]:List Int).getD i2 default)).toNat-0) 0 s2=z3 at hz2;refine AWP.range (ykz a0 i2 s2) (fun i3 s3=>⟨[(1,.ptr 0 0),(3,.int .i64 ((zbb a0.Kind).1)),(4,.int .i64 ((zbb a0.Kind).2.1)),(10,.ref 1 1 0 s3.length),(11,.int .i64 (i2:Int)),(58,.ref 2 1 0 1),(59,.int .i64 1),(60,.int .i64 (i2:Int)),(65,.int .i64 (([1]:List Int).getD i2 default)),(66,.int .i64 (i3:Int))],[.box [.int .i64 a0.Kind,encL 1 yx a0.Group,.str a0.Letter,.str a0.Colors,.int .i64 a0.Period],.arr 2 1 s3.length (fun j=>yx (s3.getD j default)),.arr 2 1 ([1]:List Int).length (fun j=>yx (([1]:List Int).getD j default))]⟩) (fun i3 s3=>s3.length<=s2.length+2 * i3/\s3.length<=18 * i2+2 * i3) (((([1]:List Int).getD i2 default)).toNat) 0 s2 [0,1,2] hz3 ot wt sm ?_;clear hz3;intro i3 s3 hi3 hW3 hz3;refine rS ?_;refine AWP.seq ?_;refine AWP.cond rfl (fun hb => ?_) (fun hb => ?_)
    ·have hlt3:i3<((([1]:List Int).getD i2 default)).toNat:=ot
     rw[yl hlt3]at hz3;simp only[ykz]at hz3;iterate 2 refine rS ?_
     refine AWP.cond rfl (fun hb => ?_) (fun hb => ?_)
     ·simp only[hb,cond_true]at hz3
      iterate 3 refine rS ?_
      exact⟨_,[0,6,2],hlt3,wt,hz3,sm⟩
     ·simp only[hb,cond_false]at hz3
      refine rS ?_;refine AWP.cond rfl (fun hb => ?_) (fun hb => ?_)
      ·simp only[hb,cond_true]at hz3
       iterate 3 refine rS ?_
       exact⟨_,[0,6,2],hlt3,wt,hz3,sm⟩
      ·simp only[hb,cond_false]at hz3
       iterate 2 refine rS ?_
       exact⟨_,[0,4,2],hlt3,wt,hz3,sm⟩
    ·obtain rfl:i3=((([1]:List Int).getD i2 default)).toNat:=ot
     rw[yk (Nat.le_refl _)]at hz3;subst hz3;dsimp only at hz2;refine AWP.exit ?_;refine yd ?_;refine rS ?_;exact⟨_,[0,1,2],hlt2,by(have h9:=hg1 i2;omega),hz2,sm⟩
   ·obtain rfl:i2=1:=ot
    rw[yk (Nat.le_refl _)]at hz2;subst hz2;dsimp only at hR;refine AWP.exit ?_;refine yd ?_;refine rS ?_;refine AWP.cond rfl (fun hb => ?_) (fun hb => ?_)
    ·replace hR:=ct hR
     iterate 2 refine rS ?_
     refine AWP.ret ?_;subst hR;exact es
    ·replace hR:=cf hR
     refine rS ?_;refine AWP.ret ?_;subst hR;exact es
  ·replace hR:=cf hR
   iterate 2 refine rS ?_
   refine AWP.block ?_;refine AWP.lensS 9 rfl (fun hLn4 => ?_);generalize hz4:yh (y5y a0) (a0.Group.length-0) 0 ([]:List Int)=z4 at hR;refine AWP.range (y5y a0) (fun i4 s4=>⟨[(1,.ptr 0 0),(3,.int .i64 ((zbb a0.Kind).1)),(4,.int .i64 ((zbb a0.Kind).2.1)),(10,.ref 1 1 0 s4.length),(58,encL 1 yx a0.Group),(59,.int .i64 (a0.Group.length:Int)),(60,.int .i64 (i4:Int))],[.box [.int .i64 a0.Kind,encL 1 yx a0.Group,.str a0.Letter,.str a0.Colors,.int .i64 a0.Period],.arr 2 1 s4.length (fun j=>yx (s4.getD j default))]⟩) (fun i4 s4=>s4.length<=18 * i4) (a0.Group.length) 0 ([]:List Int) [0,1] hz4 ot wt sm ?_;clear hz4;intro i4 s4 hi4 hW4 hz4;refine rS ?_;refine AWP.seq ?_;refine AWP.cond rfl (fun hb => ?_) (fun hb => ?_)
   ·have hlt4:i4<a0.Group.length:=ot
    rw[yl hlt4]at hz4;simp only[y5y]at hz4;iterate 2 refine rS ?_
    refine AWP.block ?_;generalize hz5:yh (yay a0 i4 s4) (((a0.Group.getD i4 default)).toNat-0) 0 s4=z5 at hz4;refine AWP.range (yay a0 i4 s4) (fun i5 s5=>⟨[(1,.ptr 0 0),(3,.int .i64 ((zbb a0.Kind).1)),(4,.int .i64 ((zbb a0.Kind).2.1)),(10,.ref 1 1 0 s5.length),(11,.int .i64 (i4:Int)),(58,encL 1 yx a0.Group),(59,.int .i64 (a0.Group.length:Int)),(60,.int .i64 (i4:Int)),(65,.int .i64 (a0.Group.getD i4 default)),(66,.int .i64 (i5:Int))],[.box [.int .i64 a0.Kind,encL 1 yx a0.Group,.str a0.Letter,.str a0.Colors,.int .i64 a0.Period],.arr 2 1 s5.length (fun j=>yx (s5.getD j default))]⟩) (fun i5 s5=>s5.length<=s4.length+2 * i5/\s5.length<=18 * i4+2 * i5) (((a0.Group.getD i4 default)).toNat) 0 s4 [0,1] hz5 ot wt sm ?_;clear hz5;intro i5 s5 hi5 hW5 hz5;refine rS ?_;refine AWP.seq ?_;refine AWP.cond rfl (fun hb => ?_) (fun hb => ?_)
    ·have hlt5:i5<((a0.Group.getD i4 default)).toNat:=ot
     rw[yl hlt5]at hz5;simp only[yay]at hz5;iterate 2 refine rS ?_
     refine AWP.cond rfl (fun hb => ?_) (fun hb => ?_)
     ·simp only[hb,cond_true]at hz5
      iterate 3 refine rS ?_
      exact⟨_,[0,5],hlt5,wt,hz5,sm⟩
     ·simp only[hb,cond_false]at hz5
      refine rS ?_;refine AWP.cond rfl (fun hb => ?_) (fun hb => ?_)
      ·simp only[hb,cond_true]at hz5
       iterate 3 refine rS ?_
       exact⟨_,[0,5],hlt5,wt,hz5,sm⟩
      ·simp only[hb,cond_false]at hz5
       iterate 2 refine rS ?_
       exact⟨_,[0,3],hlt5,wt,hz5,sm⟩
    ·obtain rfl:i5=((a0.Group.getD i4 default)).toNat:=ot
     rw[yk (Nat.le_refl _)]at hz5;subst hz5;dsimp only at hz4;refine AWP.exit ?_;refine yd ?_;refine rS ?_;exact⟨_,[0,1],hlt4,by(have h9:=hg9 i4;omega),hz4,sm⟩
   ·obtain rfl:i4=a0.Group.length:=ot
    rw[yk (Nat.le_refl _)]at hz4;subst hz4;dsimp only at hR;refine AWP.exit ?_;refine yd ?_;refine rS ?_;refine AWP.cond rfl (fun hb => ?_) (fun hb => ?_)
    ·replace hR:=ct hR
     iterate 2 refine rS ?_
     refine AWP.ret ?_;subst hR;exact es
    ·replace hR:=cf hR
     refine rS ?_;refine AWP.ret ?_;subst hR;exact es
end N243
def D_zy : DF
 | [x0]=>some (ownL 2 1 yx (zy (rdG yg x0)),false,[wG yj yg x0,bdCharacter (rdG yg x0),(rdG yg x0).Group.length<=4,∀ v∈(rdG yg x0).Group,v<=9])
 | _=>none
theorem y48:OkD Tryz.prog 243 D_zy:=by unfold D_zy;exact dk N243.den
def zch (a0:Character):Int:=
 (bif (ztd a0)then 0 else(bif (a0.Kind == 3)then 20 else(bif decide (1<(a0.Group.length:Int))then IntKind.wrap .i64 ((zqf (zy a0))+(IntKind.wrap .i64 (((zbb a0.Kind).2.2)+20)))else IntKind.wrap .i64 ((zqf (zy a0))+((zbb a0.Kind).2.2)))))
namespace N194
theorem DD:DOk Tryz.prog (Go.Ab.DD [(193,dP D_ztd),(241,dP D_zbb),(242,dP D_zqf),(243,dP D_zy)]):=ya ynx.e <| ya yuv.e <| ya y96.e <| ya y48.e <| yf _
abbrev dn:=cj @D_ztd.eq_1 <| cj @D_zbb.eq_1 <| cj @D_zqf.eq_1 <| @D_zy.eq_1
theorem den (a0:Character) (hb0:bdCharacter a0) (hp0:a0.Group.length<=4) (hp1:∀ v∈a0.Group,v<=9):Den Tryz.prog 194 [.agg (yj a0)] (.int .i64 (zch a0)):=by
 generalize hR:zch a0=r;unfold zch at hR;refine di Tryz.func194 Tryz.ntmps194 Tryz.results194 ?_;intro c hL hc hk;obtain⟨hL0,_⟩:=hL;have hw0:bwCharacter a0:=yv a0 hL0;clear hL0;simp only[pars,Nat.zero_add];iterate 2 refine rS ?_
 refine AWP.cond rfl (fun hb => ?_) (fun hb => ?_)
 ·replace hR:=ct hR
  refine rS ?_;refine AWP.ret ?_;subst hR;exact es
 ·replace hR:=cf hR
  refine rS ?_;refine AWP.cond rfl (fun hb => ?_) (fun hb => ?_)
  ·replace hR:=ct hR
   refine rS ?_;refine AWP.ret ?_;subst hR;exact es
  ·replace hR:=cf hR
   iterate 2 refine rS ?_
   refine AWP.cond rfl (fun hb => ?_) (fun hb => ?_)
   ·replace hR:=ct hR
    iterate 2 refine rS ?_
    refine AWP.ret ?_;subst hR;exact es
   ·replace hR:=cf hR
    refine rS ?_;refine AWP.ret ?_;subst hR;exact es
end N194
def D_zch : DF
 | [x0]=>some (.int .i64 (zch (rdG yg x0)),false,[wG yj yg x0,bdCharacter (rdG yg x0),(rdG yg x0).Group.length<=4,∀ v∈(rdG yg x0).Group,v<=9])
 | _=>none
theorem yj7:OkD Tryz.prog 194 D_zch:=by unfold D_zch;exact dk N194.den
def yit (a0:(List Sector)) (i1:Nat) (s1:List UInt8) (i2:Nat) (s2:List UInt8):Except ((List UInt8)) (List UInt8):=
 (bif ((((a0.getD i2 default).Color) == (([87,82,71,89].take ((IntKind.wrap .i64 ((i1:Int)+1)).toNat)).drop i1)) && (!(zgc s2 (([87,82,71,89].take ((IntKind.wrap .i64 ((i1:Int)+1)).toNat)).drop i1))))then .ok (s2++(([87,82,71,89].take ((IntKind.wrap .i64 ((i1:Int)+1)).toNat)).drop i1))else .ok s2)
def y7m (a0:(List Sector)) (i1:Nat) (s1:List UInt8):Except ((List UInt8)) (List UInt8):=
 (match yh (yit a0 i1 s1) (a0.length-0) 0 s1 with|.error e=>.error e|.ok s2=>.ok s2)
def zfd (a0:(List Sector)):(List UInt8):=
 (match yh (y7m a0) ([87,82,71,89].length-0) 0 []with|.error e=>e|.ok s1=>s1)
namespace N140
theorem DD:DOk Tryz.prog (Go.Ab.DD [(204,dP D_zgc)]):=ya yaw.e <| yf _
abbrev dn:=@D_zgc.eq_1
theorem o0 {p:Prop} (h:p:=by(first|(have h4:=hq4 i1;have h1:=hW1;have h2:=hW2;and_intros<;>first|omega|exact yxv (by omega)));first|done|fail):p:=h
theorem den (a0:(List Sector)) (hb0:a0.length<1099511627776) (hb1:∀ v∈a0,bdSector v):Den Tryz.prog 140 [encL 3 yr a0] (.str (zfd a0)):=by
 generalize hR:zfd a0=r;unfold zfd at hR;refine di Tryz.func140 Tryz.ntmps140 Tryz.results140 ?_;intro c hL hc hk;obtain⟨hL0,_⟩:=hL;have hw0:a0.length<9223372036854775808:=Nat.lt_succ_of_le (yb hL0).1;have hw1:∀ v∈a0,bwSector v:=fun v hv=>y8 v ((yb hL0).2 v hv)
 clear hL0;simp only[pars,Nat.zero_add];have hq4:=y32;iterate 3 refine rS ?_
 refine AWP.block ?_;generalize hz1:yh (y7m a0) ([87,82,71,89].length-0) 0 []=z1 at hR;refine AWP.range (y7m a0) (fun i1 s1=>⟨[(0,encL 3 yr a0),(3,.str s1),(8,.ptr 0 0)],[.it [87,82,71,89] i1 (decide (i1<[87,82,71,89].length))]⟩) (fun i1 s1=>s1.length<=1099511627776 * i1) ([87,82,71,89].length) 0 [] [0] hz1 ot (by(simp)) sm ?_;clear hz1;intro i1 s1 hi1 hW1 hz1;refine AWP.seq ?_;by_cases hlt1:i1<[87,82,71,89].length
 ·rw[yl hlt1]at hz1;simp only[y7m]at hz1
  rw[decide_eq_true hlt1];refine rS ?_;refine AWP.seq ?_;refine AWP.cond rfl (fun hb => ?_) (fun hb=>by cases hb);iterate 2 refine rS ?_
  refine AWP.block ?_;generalize hz2:yh (yit a0 i1 s1) (a0.length-0) 0 s1=z2 at hz1;refine AWP.range (yit a0 i1 s1) (fun i2 s2=>⟨[(0,encL 3 yr a0),(3,.str s2),(4,.int .i64 (i1:Int)),(8,.ptr 0 0),(12,encL 3 yr a0),(13,.int .i64 (a0.length:Int)),(14,.int .i64 (i2:Int))],[.it [87,82,71,89] (i1+1) (decide (i1+1<[87,82,71,89].length))]⟩) (fun i2 s2=>s2.length<=1099511627776 * i1+i2) (a0.length) 0 s1 [0] hz2 ot (by(exact hW1)) sm ?_;clear hz2;intro i2 s2 hi2 hW2 hz2;refine rS ?_;refine AWP.seq ?_;refine AWP.cond rfl (fun hb => ?_) (fun hb => ?_)
  ·have hlt2:i2<a0.length:=ot
   rw[yl hlt2]at hz2;simp only[yit]at hz2;iterate 3 refine rS ?_
   refine AWP.cond rfl (fun hb => ?_) (fun hb => ?_)
   ·simp only[hb,cond_true]at hz2
    iterate 2 refine rS ?_
    exact⟨_,[0],hlt2,by(have h4:=hq4 i1;have h2:=hW2;simp only[ln]at *;omega),hz2,sm⟩
   ·simp only[hb,cond_false]at hz2
    refine rS ?_;exact⟨_,[0],hlt2,by(have h4:=hq4 i1;have h2:=hW2;simp only[ln]at *;omega),hz2,sm⟩
  ·obtain rfl:i2=a0.length:=ot
   rw[yk (Nat.le_refl _)]at hz2;subst hz2;dsimp only at hz1;refine AWP.exit ?_;refine yd ?_;exact⟨_,[0],hlt1,by(have h1:=hW1;omega),hz1,sm⟩
 ·obtain rfl:i1=[87,82,71,89].length:=by omega
  rw[yk (Nat.le_refl _)]at hz1;subst hz1;dsimp only at hR;simp only[Nat.lt_irrefl,decide_false];refine rS ?_;refine AWP.seq ?_;refine AWP.cond rfl (fun hb=>by cases hb) (fun hb => ?_);refine AWP.exit ?_;refine yd ?_;refine rS ?_;refine AWP.ret ?_;subst hR;exact es
end N140
def D_zfd : DF
 | [x0]=>some (.str (zfd (rdL yz x0)),false,[wL 3 yr yz x0,(rdL yz x0).length<1099511627776,∀ v∈(rdL yz x0),bdSector v])
 | _=>none
theorem y35:OkD Tryz.prog 140 D_zfd:=by unfold D_zfd;exact dk N140.den
def y9m (a0:(List Int)) (a1:(List Int)) (i1:Nat) (s1:Unit):Except (Bool) (Unit):=
 (bif ((a0.getD i1 default) != (a1.getD i1 default))then .error false else .ok ())
def zwe (a0:(List Int)) (a1:(List Int)):Bool:=
 (bif ((a0.length:Int) != (a1.length:Int))then false else(match yh (y9m a0 a1) (a0.length-0) 0 ()with|.error e=>e|.ok s1=>true))
namespace N199
theorem DD:DOk Tryz.prog (Go.Ab.DD []):=yf _
theorem den (a0:(List Int)) (a1:(List Int))  : Den Tryz.prog 199 [encL 1 yx a0,encL 1 yx a1] (.bool (zwe a0 a1)):=by
 generalize hR:zwe a0 a1=r;unfold zwe at hR;refine di Tryz.func199 Tryz.ntmps199 Tryz.results199 ?_;intro c hL hc hk;obtain⟨hL0,hL1,_⟩:=hL;have hw0:a0.length<9223372036854775808:=Nat.lt_succ_of_le (yb hL0).1;have hw1:a1.length<9223372036854775808:=Nat.lt_succ_of_le (yb hL1).1;clear hL0 hL1;simp only[pars,Nat.zero_add];iterate 2 refine rS ?_
 refine AWP.cond rfl (fun hb => ?_) (fun hb => ?_)
 ·replace hR:=ct hR
  refine rS ?_;refine AWP.ret ?_;subst hR;exact es
 ·replace hR:=cf hR
  refine rS ?_;refine AWP.block ?_;generalize hz1:yh (y9m a0 a1) (a0.length-0) 0 ()=z1 at hR;refine AWP.range (y9m a0 a1) (fun i1 s1=>⟨[(0,encL 1 yx a0),(1,encL 1 yx a1),(12,.int .i64 (a0.length:Int)),(13,.int .i64 (i1:Int))],[]⟩) (fun i1 s1=>True) (a0.length) 0 () [] hz1 ot wt sm ?_;clear hz1;intro i1 s1 hi1 hW1 hz1;refine rS ?_;refine AWP.seq ?_;refine AWP.cond rfl (fun hb => ?_) (fun hb => ?_)
  ·have hlt1:i1<a0.length:=ot
   rw[yl hlt1]at hz1;simp only[y9m]at hz1;refine rS ?_;refine rD 8 ?_;refine AWP.cond rfl (fun hb => ?_) (fun hb => ?_)
   ·simp only[hb,cond_true]at hz1
    refine rS ?_;refine AWP.ret ?_;subst hz1;dsimp only at hR;subst hR;exact es
   ·simp only[hb,cond_false]at hz1
    refine rS ?_;exact⟨_,[],hlt1,wt,hz1,sm⟩
  ·obtain rfl:i1=a0.length:=ot
   rw[yk (Nat.le_refl _)]at hz1;subst hz1;dsimp only at hR;refine AWP.exit ?_;refine yd ?_;refine rS ?_;refine AWP.ret ?_;subst hR;exact es
end N199
def D_zwe : DF
 | [x0,x1]=>some (.bool (zwe (rdL ynb x0) (rdL ynb x1)),false,[wL 1 yx ynb x0,wL 1 yx ynb x1])
 | _=>none
theorem y34:OkD Tryz.prog 199 D_zwe:=by unfold D_zwe;exact dk N199.den
theorem yle (a b:List Int):zwe a b=decide (a=b):=by
 unfold zwe;by_cases hl:a.length=b.length
 ·have h1:((a.length:Int) != (b.length:Int))=false:=by simp[hl]
  rw[h1,cond_false,yid (b:=y9m a b) (fun j => !decide (a.getD j default=b.getD j default)) false (fun j u _ _=>by simp only[y9m,ned])];simp only[Nat.sub_zero,Nat.zero_add];rw[yd1 a b hl];by_cases h:a=b<;>simp[h]
 ·have h1:((a.length:Int) != (b.length:Int))=true:=by simp;omega
  have h2:¬ a=b:=fun e=>hl (by rw[e])
  rw[h1,cond_true,decide_eq_false h2]
def zyd (a0:Point):Bool:=
 ((ze a0.X 0 200000) && (ze a0.Y 0 200000))
namespace N123
theorem DD:DOk Tryz.prog (Go.Ab.DD [(63,dP D_ze)]):=ya yfc.e <| yf _
abbrev dn:=@D_ze.eq_1
abbrev ol:=@ze.eq_1
theorem den (a0:Point)  : Den Tryz.prog 123 [.agg (ypf a0)] (.bool (zyd a0)):=by
 generalize hR:zyd a0=r;unfold zyd at hR;refine di Tryz.func123 Tryz.ntmps123 Tryz.results123 ?_;intro c hL hc hk;clear hL;simp only[pars,Nat.zero_add];iterate 2 refine rS ?_
 refine AWP.ret ?_;subst hR;exact es
end N123
def D_zyd : DF
 | [x0]=>some (.bool (zyd (rdG y1k x0)),false,[wG ypf y1k x0])
 | _=>none
theorem yep:OkD Tryz.prog 123 D_zyd:=by unfold D_zyd;exact dk N123.den
def znh (a0:Int):Bool:=
 (ze a0 0 3000)
namespace N134
theorem DD:DOk Tryz.prog (Go.Ab.DD [(63,dP D_ze)]):=ya yfc.e <| yf _
abbrev dn:=@D_ze.eq_1
abbrev ol:=@ze.eq_1
theorem den (a0:Int)  : Den Tryz.prog 134 [.int .i64 a0] (.bool (znh a0)):=by
 generalize hR:znh a0=r;unfold znh at hR;refine di Tryz.func134 Tryz.ntmps134 Tryz.results134 ?_;intro c hL hc hk;clear hL;simp only[pars,Nat.zero_add];iterate 2 refine rS ?_
 refine AWP.ret ?_;subst hR;exact es
end N134
def D_znh : DF
 | [x0]=>some (.bool (znh (rdI x0)),false,[wI .i64 x0])
 | _=>none
theorem yf6:OkD Tryz.prog 134 D_znh:=by unfold D_znh;exact dk N134.den
def zxe (a0:Character) (a1:Character):Bool:=
 (((((a0.Kind == a1.Kind) && (zwe a0.Group a1.Group)) && (a0.Letter == a1.Letter)) && (a0.Colors == a1.Colors)) && (a0.Period == a1.Period))
namespace N136
theorem DD:DOk Tryz.prog (Go.Ab.DD [(199,dP D_zwe)]):=ya y34.e <| yf _
abbrev dn:=@D_zwe.eq_1
theorem den (a0:Character) (a1:Character)  : Den Tryz.prog 136 [.agg (yj a0),.agg (yj a1)] (.bool (zxe a0 a1)):=by
 generalize hR:zxe a0 a1=r;unfold zxe at hR;refine di Tryz.func136 Tryz.ntmps136 Tryz.results136 ?_;intro c hL hc hk;obtain⟨hL0,hL1,_⟩:=hL;have hw0:bwCharacter a0:=yv a0 hL0;have hw1:bwCharacter a1:=yv a1 hL1;clear hL0 hL1;simp only[pars,Nat.zero_add];iterate 2 refine rS ?_
 refine AWP.ret ?_;subst hR;exact es
end N136
def D_zxe : DF
 | [x0,x1]=>some (.bool (zxe (rdG yg x0) (rdG yg x1)),false,[wG yj yg x0,wG yj yg x1])
 | _=>none
theorem y8v:OkD Tryz.prog 136 D_zxe:=by unfold D_zxe;exact dk N136.den
def zdh (a0:Aid):Bool:=
 (((zxe a0.Light ({ Kind:=0,Group:=[],Letter:=[],Colors:=[],Period:=0:Character })) && ((a0.Sectors.length:Int) == 0)) && (a0.Intensity == 0))
namespace N135
theorem DD:DOk Tryz.prog (Go.Ab.DD [(136,dP D_zxe)]):=ya y8v.e <| yf _
abbrev dn:=@D_zxe.eq_1
theorem den (a0:Aid)  : Den Tryz.prog 135 [.agg (eAid a0)] (.bool (zdh a0)):=by
 generalize hR:zdh a0=r;unfold zdh at hR;refine di Tryz.func135 Tryz.ntmps135 Tryz.results135 ?_;intro c hL hc hk;obtain⟨hL0,_⟩:=hL;have hw0:bwAid a0:=y3 a0 hL0;clear hL0;simp only[pars,Nat.zero_add];iterate 2 refine rS ?_
 refine AWP.ret ?_;subst hR;exact es
end N135
def D_zdh : DF
 | [x0]=>some (.bool (zdh (rdG dAid x0)),false,[wG eAid dAid x0])
 | _=>none
theorem yr3:OkD Tryz.prog 135 D_zdh:=by unfold D_zdh;exact dk N135.den
def zgd (a0:Int):Bool:=
 (ze a0 1 9999)
namespace N39
theorem DD:DOk Tryz.prog (Go.Ab.DD [(63,dP D_ze)]):=ya yfc.e <| yf _
abbrev dn:=@D_ze.eq_1
abbrev ol:=@ze.eq_1
theorem den (a0:Int)  : Den Tryz.prog 39 [.int .i64 a0] (.bool (zgd a0)):=by
 generalize hR:zgd a0=r;unfold zgd at hR;refine di Tryz.func39 Tryz.ntmps39 Tryz.results39 ?_;intro c hL hc hk;clear hL;simp only[pars,Nat.zero_add];iterate 2 refine rS ?_
 refine AWP.ret ?_;subst hR;exact es
end N39
def D_zgd : DF
 | [x0]=>some (.bool (zgd (rdI x0)),false,[wI .i64 x0])
 | _=>none
theorem y5o:OkD Tryz.prog 39 D_zgd:=by unfold D_zgd;exact dk N39.den
def zeh (a0:Int):Bool:=
 (ze a0 1 100000000)
namespace N139
theorem DD:DOk Tryz.prog (Go.Ab.DD [(63,dP D_ze)]):=ya yfc.e <| yf _
abbrev dn:=@D_ze.eq_1
abbrev ol:=@ze.eq_1
theorem den (a0:Int)  : Den Tryz.prog 139 [.int .i64 a0] (.bool (zeh a0)):=by
 generalize hR:zeh a0=r;unfold zeh at hR;refine di Tryz.func139 Tryz.ntmps139 Tryz.results139 ?_;intro c hL hc hk;clear hL;simp only[pars,Nat.zero_add];iterate 2 refine rS ?_
 refine AWP.ret ?_;subst hR;exact es
end N139
def D_zeh : DF
 | [x0]=>some (.bool (zeh (rdI x0)),false,[wI .i64 x0])
 | _=>none
theorem yx6:OkD Tryz.prog 139 D_zeh:=by unfold D_zeh;exact dk N139.den
def zuc (a0:Int):(List UInt8):=
 (zvb a0 ([[],[70],[79,99],[73,115,111],[70,108],[76,70,108],[81],[86,81],[77,111]]:List (List UInt8)))
namespace N189
theorem DD:DOk Tryz.prog (Go.Ab.DD [(58,dP D_zvb)]):=ya yhg.e <| yf _
abbrev dn:=@D_zvb.eq_1
theorem lx {p:Prop} (h:p:=by(exact lxx);first|done|fail):p:=h
theorem den (a0:Int)  : Den Tryz.prog 189 [.int .i64 a0] (.str (zuc a0)):=by
 generalize hR:zuc a0=r;unfold zuc at hR;refine di Tryz.func189 Tryz.ntmps189 Tryz.results189 ?_;intro c hL hc hk;clear hL;simp only[pars,Nat.zero_add];iterate 2 refine rS ?_
 refine AWP.ret ?_;subst hR;exact es
end N189
def D_zuc : DF
 | [x0]=>some (.str (zuc (rdI x0)),false,[wI .i64 x0])
 | _=>none
theorem y0v:OkD Tryz.prog 189 D_zuc:=by unfold D_zuc;exact dk N189.den
theorem y8w (k:Int):(zuc k).length<=3:=by
 unfold zuc zvb;simp only[Bool.cond_eq_ite];split
 ·simp
 ·rw[List.getD_eq_getElem?_getD]
  have h:∀ x∈([[],[70],[79,99],[73,115,111],[70,108],[76,70,108],[81],[86,81],[77,111]]:List (List UInt8)),x.length<=3:=by decide
  cases hg:([[],[70],[79,99],[73,115,111],[70,108],[76,70,108],[81],[86,81],[77,111]]:List (List UInt8))[k.toNat]? with
  | none=>show(0:Nat)<=3;omega
  | some x=>exact h x (List.mem_of_getElem? hg)
theorem yem (xs:List (List UInt8)) (h:∀ v∈xs,v.length<=20):(zub xs [43]).length<=21 * xs.length/\(Go.Lib.join xs [43]).length<=21 * xs.length:=by
 have h1:=yuk [43] xs 20 h;simp only[List.length_singleton]at h1;exact⟨by show(Go.Lib.join xs [43]).length<=_;omega,by omega⟩
def yrn (a0:Character) (i1:Nat) (s1:List (List UInt8)):Except ((List UInt8)) (List (List UInt8)):=
 .ok (s1++[(zh (a0.Group.getD i1 default))])
def zzd (a0:Character):(List UInt8):=
 (bif (a0.Kind == 8)then(((zuc a0.Kind)++[40])++a0.Letter)++[41]else(bif decide (0<(a0.Group.length:Int))then(match yh (yrn a0) (a0.Group.length-0) 0 ([]:List (List UInt8))with|.error e=>e|.ok s1=>(bif (a0.Letter != [])then((zuc a0.Kind)++(([40]++(zub s1 [43]))++[41]))++[43,76,70,108]else(zuc a0.Kind)++(([40]++(zub s1 [43]))++[41])))else(bif (a0.Letter != [])then(zuc a0.Kind)++[43,76,70,108]else(zuc a0.Kind))))
namespace N141
theorem DD:DOk Tryz.prog (Go.Ab.DD [(189,dP D_zuc),(30,dP D_zh),(32,dP D_zub)]):=ya y0v.e <| ya yvf.e <| ya yai.e <| yf _
abbrev dn:=cj @D_zuc.eq_1 <| cj @D_zh.eq_1 <| @D_zub.eq_1
theorem gr {p:Prop} (h:p:=by(grind [yrc]);first|done|fail):p:=h
theorem o0 {p:Prop} (h:p:=by(first|(have h9:=yem s1 (by first|exact hW1|exact hW1.2);first|omega|(simp only[ob,ln,List.length_singleton,List.length_append,List.length_cons,List.length_nil]at *;omega)|(and_intros<;>first|omega|(simp only[ob,ln,List.length_singleton,List.length_append,List.length_cons,List.length_nil]at *;omega)))|(have h9:=hg9 i1;and_intros<;>omega)|(simp only[ob,ln,List.length_singleton,List.length_append,List.length_cons,List.length_nil]at *;omega));first|done|fail):p:=h
theorem o1 {p:Prop} (h:p:=by(first|(have h9:=yem s1 hW1.2;have h8:=hW1.1;simp only[ob,ln,List.length_singleton,List.length_append,List.length_cons,List.length_nil]at *;omega)|(have h9:=hg9 i1;omega));first|done|fail):p:=h
set_option maxHeartbeats 1000000 in
set_option maxRecDepth 20000 in
theorem den (a0:Character) (hb0:bdCharacter a0) (hp0:a0.Group.length<=4) (hp1:∀ v∈a0.Group,1<=v/\v<=9):Den Tryz.prog 141 [.agg (yj a0)] (.str (zzd a0)):=by
 generalize hR:zzd a0=r;unfold zzd at hR;refine di Tryz.func141 Tryz.ntmps141 Tryz.results141 ?_;intro c hL hc hk;obtain⟨hL0,_⟩:=hL;have hw0:bwCharacter a0:=yv a0 hL0;clear hL0;simp only[pars,Nat.zero_add];have hg9:∀ i:Nat,0<=a0.Group.getD i default/\a0.Group.getD i default<=9:=fun i=>ywk hp1 i
 have hk9:=y8w a0.Kind;iterate 3 refine rS ?_
 refine AWP.cond rfl (fun hb => ?_) (fun hb => ?_)
 ·replace hR:=ct hR
  refine rS ?_;refine AWP.ret ?_;subst hR;exact es
 ·replace hR:=cf hR
  refine rS ?_;refine AWP.cond rfl (fun hb => ?_) (fun hb => ?_)
  ·replace hR:=ct hR
   iterate 2 refine rS ?_
   refine AWP.block ?_;refine AWP.lensS 20 rfl (fun hLn1 => ?_);generalize hz1:yh (yrn a0) (a0.Group.length-0) 0 ([]:List (List UInt8))=z1 at hR;refine AWP.range (yrn a0) (fun i1 s1=>⟨[(1,.ptr 0 0),(3,.str (zuc a0.Kind)),(4,.ref 1 1 0 s1.length),(25,encL 1 yx a0.Group),(26,.int .i64 (a0.Group.length:Int)),(27,.int .i64 (i1:Int))],[.box [.int .i64 a0.Kind,encL 1 yx a0.Group,.str a0.Letter,.str a0.Colors,.int .i64 a0.Period],.arr 9 1 s1.length (fun j=>eS (s1.getD j default))]⟩) (fun i1 s1=>s1.length<=([]:List (List UInt8)).length+1 * i1/\∀ v∈s1,v.length<=20) (a0.Group.length) 0 ([]:List (List UInt8)) [0,1] hz1 ot wt sm ?_;clear hz1;intro i1 s1 hi1 hW1 hz1;refine rS ?_;refine AWP.seq ?_;refine AWP.cond rfl (fun hb => ?_) (fun hb => ?_)
   ·have hlt1:i1<a0.Group.length:=ot
    rw[yl hlt1]at hz1;simp only[yrn]at hz1;iterate 3 refine rS ?_
    exact⟨_,[0,3],hlt1,by(and_intros<;>first|(simp only[ln,List.length_append,List.length_singleton,List.length_nil]at *;omega)|(intro v hv;exact(List.mem_append.1 hv).elim (fun h=>by first|exact hW1 v h|exact hW1.2 v h|exact hW1.2.2 v h) (fun h=>by rw[List.mem_singleton]at h;subst h;exact y2f _ (by have:=hg9 i1;omega) (by have:=hg9 i1;omega)))),hz1,sm⟩
   ·obtain rfl:i1=a0.Group.length:=ot
    rw[yk (Nat.le_refl _)]at hz1;subst hz1;dsimp only at hR;refine AWP.exit ?_;refine yd ?_;iterate 2 refine rS ?_
    refine AWP.cond rfl (fun hb => ?_) (fun hb => ?_)
    ·replace hR:=ct hR
     iterate 2 refine rS ?_
     refine AWP.ret ?_;subst hR;exact es
    ·replace hR:=cf hR
     refine rS ?_;refine AWP.ret ?_;subst hR;exact es
  ·replace hR:=cf hR
   refine rS ?_;refine AWP.cond rfl (fun hb => ?_) (fun hb => ?_)
   ·replace hR:=ct hR
    iterate 2 refine rS ?_
    refine AWP.ret ?_;subst hR;exact es
   ·replace hR:=cf hR
    refine rS ?_;refine AWP.ret ?_;subst hR;exact es
end N141
def D_zzd : DF
 | [x0]=>some (.str (zzd (rdG yg x0)),false,[wG yj yg x0,bdCharacter (rdG yg x0),(rdG yg x0).Group.length<=4,∀ v∈(rdG yg x0).Group,1<=v/\v<=9])
 | _=>none
theorem yz2:OkD Tryz.prog 141 D_zzd:=by unfold D_zzd;exact dk N141.den
def zye (a0:Int):(List UInt8):=
 (bif ((a0.tmod 10) == 0)then(zh (IntKind.wrap .i64 (a0.tdiv 10)))else((zh (IntKind.wrap .i64 (a0.tdiv 10)))++[46])++(zh (a0.tmod 10)))
namespace N142
theorem DD:DOk Tryz.prog (Go.Ab.DD [(30,dP D_zh)]):=ya yvf.e <| yf _
abbrev dn:=@D_zh.eq_1
theorem gr {p:Prop} (h:p:=by(grind [yrc]);first|done|fail):p:=h
set_option maxHeartbeats 400000 in
set_option maxRecDepth 20000 in
theorem den (a0:Int) (hp0 : -9223372036854775808<=a0) (hp1:a0<=9223372036854775807):Den Tryz.prog 142 [.int .i64 a0] (.str (zye a0)):=by
 generalize hR:zye a0=r;unfold zye at hR;refine di Tryz.func142 Tryz.ntmps142 Tryz.results142 ?_;intro c hL hc hk;clear hL;simp only[pars,Nat.zero_add];have h1:=yzn (a0.tdiv 10);have ht:=yow a0;have h2:=y2f (a0.tmod 10) (by omega) (by omega);iterate 2 refine rS ?_
 refine AWP.cond rfl (fun hb => ?_) (fun hb => ?_)
 ·replace hR:=ct hR
  refine rS ?_;refine AWP.ret ?_;subst hR;exact es
 ·replace hR:=cf hR
  refine rS ?_;refine AWP.ret ?_;subst hR;exact es
end N142
def D_zye : DF
 | [x0]=>some (.str (zye (rdI x0)),false,[wI .i64 x0,-9223372036854775808<=(rdI x0),(rdI x0)<=9223372036854775807])
 | _=>none
theorem y6x:OkD Tryz.prog 142 D_zye:=by unfold D_zye;exact dk N142.den
def zae (a0:Int):(List UInt8):=
 (zvb a0 ([[110,111,110,101],[108,101,102,116],[114,105,103,104,116],[110,111,114,116,104],[101,97,115,116],[115,111,117,116,104],[119,101,115,116],[100,97,110,103,101,114],[115,97,102,101],[115,112,101,99,105,97,108]]:List (List UInt8)))
namespace N124
theorem DD:DOk Tryz.prog (Go.Ab.DD [(58,dP D_zvb)]):=ya yhg.e <| yf _
abbrev dn:=@D_zvb.eq_1
theorem lx {p:Prop} (h:p:=by(exact lxx);first|done|fail):p:=h
theorem den (a0:Int)  : Den Tryz.prog 124 [.int .i64 a0] (.str (zae a0)):=by
 generalize hR:zae a0=r;unfold zae at hR;refine di Tryz.func124 Tryz.ntmps124 Tryz.results124 ?_;intro c hL hc hk;clear hL;simp only[pars,Nat.zero_add];iterate 2 refine rS ?_
 refine AWP.ret ?_;subst hR;exact es
end N124
def D_zae : DF
 | [x0]=>some (.str (zae (rdI x0)),false,[wI .i64 x0])
 | _=>none
theorem ydo:OkD Tryz.prog 124 D_zae:=by unfold D_zae;exact dk N124.den
theorem yeu (l:List (List UInt8)) (h:∀ x∈l,x.length<=100) (n:Nat):(l.getD n default).length<=100:=by
 rw[List.getD_eq_getElem?_getD]
 cases hg:l[n]? with
 | none=>show(0:Nat)<=100;omega
 | some x=>exact h x (List.mem_of_getElem? hg)
theorem yvv (k:Int) (l:List (List UInt8)) (h:∀ x∈l,x.length<=100):(zvb k l).length<=100:=by
 unfold zvb;simp only[Bool.cond_eq_ite];split
 ·simp
 ·exact yeu l h _
def zme (a0:Int):Bool:=
 (ze a0 2000 2273)
namespace N117
theorem DD:DOk Tryz.prog (Go.Ab.DD [(63,dP D_ze)]):=ya yfc.e <| yf _
abbrev dn:=@D_ze.eq_1
abbrev ol:=@ze.eq_1
theorem den (a0:Int)  : Den Tryz.prog 117 [.int .i64 a0] (.bool (zme a0)):=by
 generalize hR:zme a0=r;unfold zme at hR;refine di Tryz.func117 Tryz.ntmps117 Tryz.results117 ?_;intro c hL hc hk;clear hL;simp only[pars,Nat.zero_add];iterate 2 refine rS ?_
 refine AWP.ret ?_;subst hR;exact es
end N117
def D_zme : DF
 | [x0]=>some (.bool (zme (rdI x0)),false,[wI .i64 x0])
 | _=>none
theorem y2w:OkD Tryz.prog 117 D_zme:=by unfold D_zme;exact dk N117.den
def zbe (a0:Int):Bool:=
 ((zme a0) && ((((a0.tmod 4) == 0) && ((a0.tmod 100) != 0)) || ((a0.tmod 400) == 0)))
namespace N180
theorem DD:DOk Tryz.prog (Go.Ab.DD [(117,dP D_zme)]):=ya y2w.e <| yf _
abbrev dn:=@D_zme.eq_1
theorem den (a0:Int)  : Den Tryz.prog 180 [.int .i64 a0] (.bool (zbe a0)):=by
 generalize hR:zbe a0=r;unfold zbe at hR;refine di Tryz.func180 Tryz.ntmps180 Tryz.results180 ?_;intro c hL hc hk;clear hL;simp only[pars,Nat.zero_add];iterate 2 refine rS ?_
 refine AWP.ret ?_;subst hR;exact es
end N180
def D_zbe : DF
 | [x0]=>some (.bool (zbe (rdI x0)),false,[wI .i64 x0])
 | _=>none
theorem ynv:OkD Tryz.prog 180 D_zbe:=by unfold D_zbe;exact dk N180.den
def zdb (a0:Int) (a1:Int):Int:=
 (bif ((a1 == 2) && (zbe a0))then 29 else([31,28,31,30,31,30,31,31,30,31,30,31]:List Int).getD ((IntKind.wrap .i64 (a1-1)).toNat) 0)
namespace N119
theorem DD:DOk Tryz.prog (Go.Ab.DD [(180,dP D_zbe)]):=ya ynv.e <| yf _
abbrev dn:=@D_zbe.eq_1
theorem den (a0:Int) (a1:Int) (hp0:1<=a1) (hp1:a1<=12):Den Tryz.prog 119 [.int .i64 a0,.int .i64 a1] (.int .i64 (zdb a0 a1)):=by
 generalize hR:zdb a0 a1=r;unfold zdb at hR;refine di Tryz.func119 Tryz.ntmps119 Tryz.results119 ?_;intro c hL hc hk;clear hL;simp only[pars,Nat.zero_add];iterate 2 refine rS ?_
 refine AWP.cond rfl (fun hb => ?_) (fun hb => ?_)
 ·replace hR:=ct hR
  refine rS ?_;refine AWP.ret ?_;subst hR;exact es
 ·replace hR:=cf hR
  refine rS ?_;refine AWP.ret ?_;subst hR;exact es
end N119
def D_zdb : DF
 | [x0,x1]=>some (.int .i64 (zdb (rdI x0) (rdI x1)),false,[wI .i64 x0,wI .i64 x1,1<=(rdI x1),(rdI x1)<=12])
 | _=>none
theorem ydq:OkD Tryz.prog 119 D_zdb:=by unfold D_zdb;exact dk N119.den
def zqb (a0:Int):Int:=
 (bif (zbe a0)then 366 else 365)
namespace N145
theorem DD:DOk Tryz.prog (Go.Ab.DD [(180,dP D_zbe)]):=ya ynv.e <| yf _
abbrev dn:=@D_zbe.eq_1
theorem den (a0:Int)  : Den Tryz.prog 145 [.int .i64 a0] (.int .i64 (zqb a0)):=by
 generalize hR:zqb a0=r;unfold zqb at hR;refine di Tryz.func145 Tryz.ntmps145 Tryz.results145 ?_;intro c hL hc hk;clear hL;simp only[pars,Nat.zero_add];iterate 2 refine rS ?_
 refine AWP.cond rfl (fun hb => ?_) (fun hb => ?_)
 ·replace hR:=ct hR
  refine rS ?_;refine AWP.ret ?_;subst hR;exact es
 ·replace hR:=cf hR
  refine rS ?_;refine AWP.ret ?_;subst hR;exact es
end N145
def D_zqb : DF
 | [x0]=>some (.int .i64 (zqb (rdI x0)),false,[wI .i64 x0])
 | _=>none
theorem yvx:OkD Tryz.prog 145 D_zqb:=by unfold D_zqb;exact dk N145.den
def y4u (y m:Int):Int:=(bif zbe y && decide (m<=2)then 1 else 0)+([365,334,306,275,245,214,184,153,122,92,61,31]:List Int).getD (m-1).toNat 0
theorem y9f (y : Int) : zdb y 1 = 31 /\ zdb y 2 = (bif zbe y then 29 else 28) /\ zdb y 3 = 31 /\ zdb y 4 = 30 /\ zdb y 5 = 31 /\ zdb y 6 = 30
  /\ zdb y 7=31/\zdb y 8=31/\zdb y 9=30/\zdb y 10=31/\zdb y 11=30/\zdb y 12=31:=by
 simp[zdb,IntKind.wrap_i64]
theorem ylr (y:Int):y4u y 1=zqb y:=by
 unfold zqb y4u;cases zbe y<;>rfl
theorem ycj (y m d:Int) (h1:1<=m) (h2:m<=12) (h3:d<y4u y m) (h4:zdb y m<=d):m<=11/\d-zdb y m<y4u y (m+1)/\28<=zdb y m/\zdb y m<=31:=by
 obtain⟨e1,e2,e3,e4,e5,e6,e7,e8,e9,e10,e11,e12⟩:=y9f y
 rcases yjh h1 h2 with rfl|rfl|rfl|rfl|rfl|rfl|rfl|rfl|rfl|rfl|rfl|rfl<;>
  simp only[*]at h4 ⊢ <;> simp[y4u]at h3 ⊢ <;> cases hl:zbe y<;>simp_all<;>omega
theorem yxf (y m:Int) (h1:1<=m) (h2:m<=12):28<=zdb y m/\zdb y m<=31:=by
 obtain⟨e1,e2,e3,e4,e5,e6,e7,e8,e9,e10,e11,e12⟩:=y9f y;rcases yjh h1 h2 with rfl|rfl|rfl|rfl|rfl|rfl|rfl|rfl|rfl|rfl|rfl|rfl<;>simp only[*]<;>cases zbe y<;>simp
theorem yvj (y:Int):zqb y=365\/zqb y=366:=by
 unfold zqb;cases zbe y<;>simp
def ycz (a0:Int) (s1:Int×Int):Except (Sum ((Int×Int×Int)) (Int×Int)) (Int×Int):=
 (bif decide ((zqb s1.2)<=s1.1)then .ok (IntKind.wrap .i64 (s1.1-(zqb s1.2)),IntKind.wrap .i64 (s1.2+1))else .error (.inr (s1.1,s1.2)))
def ycy (a0:Int) (s1:Int×Int) (s2:Int×Int):Except (Sum ((Int×Int×Int)) (Int×Int)) (Int×Int):=
 (bif decide ((zdb s1.2 s2.2)<=s2.1)then .ok (IntKind.wrap .i64 (s2.1-(zdb s1.2 s2.2)),IntKind.wrap .i64 (s2.2+1))else .error (.inr (s2.1,s2.2)))
def zw (a0:Int):(Int×Int×Int):=
 (match yeb (ycz a0) (((a0).toNat)+1) (a0,2000)with|.error (.inl e)=>e|.error (.inr s1)=>(match yeb (ycy a0 s1) (((s1.1).toNat)+1) (s1.1,1)with|.error (.inl e)=>e|.error (.inr s2)=>(s1.2,s2.2,IntKind.wrap .i64 (s2.1+1))|.ok _=>default)|.ok _=>default)
namespace N75
theorem DD:DOk Tryz.prog (Go.Ab.DD [(119,dP D_zdb),(145,dP D_zqb)]):=ya ydq.e <| ya yvx.e <| yf _
abbrev dn:=cj @D_zdb.eq_1 <| @D_zqb.eq_1
theorem den (a0:Int) (hp0:0<=a0) (hp1:a0<=99999):Den Tryz.prog 75 [.int .i64 a0] (.tup [.int .i64 ((zw a0).1),.int .i64 ((zw a0).2.1),.int .i64 ((zw a0).2.2)]):=by
 generalize hR:zw a0=r;unfold zw at hR;refine di Tryz.func75 Tryz.ntmps75 Tryz.results75 ?_;intro c hL hc hk;clear hL;simp only[pars,Nat.zero_add];iterate 2 refine rS ?_
 refine AWP.seq ?_;refine AWP.block ?_;generalize hz1:yeb (ycz a0) (((a0).toNat)+1) (a0,2000)=z1 at hR;refine AWP.whileW (ycz a0) (fun s1=>⟨[(0,.int .i64 s1.1),(5,.int .i64 s1.2),(6,.int .i64 1)],[]⟩) (fun s1=>0<=s1.1/\2000<=s1.2/\s1.2-2000+s1.1<=a0) (fun s1=>(s1.1).toNat) (((a0).toNat)+1) (a0,2000) [] hz1 m0 wt sm ?_;clear hz1;intro s1 k1 hW1 hm1 hz1;simp only[ycz]at hz1;refine rS ?_;refine AWP.cond rfl (fun hb => ?_) (fun hb => ?_)
 ·simp only[hb,cond_true]at hz1
  iterate 2 refine rS ?_
  exact⟨_,[],by(have h9:=yvj s1.2;simp only[ob,ln,ol]at *;omega),by(have h9:=yvj s1.2;simp only[ob,ln,ol]at *;omega),hz1,sm⟩
 ·simp only[hb,cond_false]at hz1
  refine AWP.exit ?_;refine yd ?_;subst hz1;dsimp only at hR;refine AWP.seq ?_;refine AWP.block ?_;generalize hz2:yeb (ycy a0 (s1.1,s1.2)) (((s1.1).toNat)+1) (s1.1,1)=z2 at hR;refine AWP.whileW (ycy a0 (s1.1,s1.2)) (fun s2=>⟨[(0,.int .i64 s2.1),(5,.int .i64 s1.2),(6,.int .i64 s2.2)],[]⟩) (fun s2=>0<=s2.1/\s2.1<=99999/\1<=s2.2/\s2.2<=12/\s2.1<y4u s1.2 s2.2) (fun s2=>(s2.1).toNat) (((s1.1).toNat)+1) (s1.1,1) [] hz2 m0 (by(have h9:=yvj s1.2;have h8:=ylr s1.2;simp only[ob,ln,ol]at *;omega)) sm ?_;clear hz2;intro s2 k2 hW2 hm2 hz2;simp only[ycy]at hz2;refine rS ?_;refine AWP.cond rfl (fun hb => ?_) (fun hb => ?_)
  ·simp only[hb,cond_true]at hz2
   iterate 2 refine rS ?_
   exact⟨_,[],by(have hbq:=of_decide_eq_true hb;have h9:=ycj s1.2 s2.2 s2.1 (by omega) (by omega) (by omega) hbq;have e1:=ydd (n:=s2.1-zdb s1.2 s2.2) (by omega) (by omega);have e2:=ydd (n:=s2.2+1) (by omega) (by omega);simp only[e1,e2];omega),by(have hbq:=of_decide_eq_true hb;have h9:=ycj s1.2 s2.2 s2.1 (by omega) (by omega) (by omega) hbq;have e1:=ydd (n:=s2.1-zdb s1.2 s2.2) (by omega) (by omega);have e2:=ydd (n:=s2.2+1) (by omega) (by omega);simp only[e1,e2];omega),hz2,sm⟩
  ·simp only[hb,cond_false]at hz2
   refine AWP.exit ?_;refine yd ?_;subst hz2;dsimp only at hR;refine rS ?_;refine AWP.ret ?_;subst hR;exact es
end N75
def D_zw : DF
 | [x0]=>some (.tup [.int .i64 ((zw (rdI x0)).1),.int .i64 ((zw (rdI x0)).2.1),.int .i64 ((zw (rdI x0)).2.2)],false,[wI .i64 x0,0<=(rdI x0),(rdI x0)<=99999])
 | _=>none
theorem y78:OkD Tryz.prog 75 D_zw:=by unfold D_zw;exact dk N75.den
theorem yyt {y:Int} (h1:2000<=y) (h2:y<=2273):zbe y=y1c y:=by
 unfold zbe y1c zme ze;simp[h1,h2]
theorem yrk {y m:Int} (hy1:2000<=y) (hy2:y<=2273) (h1:1<=m) (h2:m<=12):zdb y m=mdD (y1c y) m.toNat:=by
 obtain⟨e1,e2,e3,e4,e5,e6,e7,e8,e9,e10,e11,e12⟩:=y9f y;rw[yyt hy1 hy2]at e2;rcases yjh h1 h2 with rfl|rfl|rfl|rfl|rfl|rfl|rfl|rfl|rfl|rfl|rfl|rfl<;>simp only[*]<;>cases y1c y<;>rfl
theorem ykcb (a:Int) (h1:0<=a) (h2:a<=99999):∃ y m d,zw a=(y,m,d)/\y<=2273/\yyz a y m d:=by
 have L1 := y8k (body := ycz a) (I := fun s => 0 <= s.1 /\ 2000 <= s.2 /\ ybD s.2 + s.1 = a)
  (Q:=fun r=>∃ s:Int×Int,r=.inr s/\0<=s.1/\2000<=s.2/\ybD s.2+s.1=a/\s.1<zqb s.2) (M:=fun s=>s.1.toNat) (by
   rintro⟨d,y⟩ ⟨i1,i2,i3⟩
   simp only[ycz]at i1 i2 i3 ⊢;have hy:=yvj y;have hle:=y0u (y:=y) (by omega);have hnn:=yws i2;by_cases hc:zqb y<=d
   ·have hyd:zqb y=365+(bif y1c y then 1 else 0):=by
     unfold zqb;rw[yyt i2 hle];cases y1c y<;>rfl
    have hn:=yz0 y i2;simp only[hc,decide_true,cond_true];rw[ydd (by omega) (by omega),ydd (by omega) (by omega)];refine⟨⟨by omega,by omega,by omega⟩,by omega⟩
   ·simp only[hc,decide_false,cond_false]
    exact⟨_,rfl,i1,i2,i3,by show d<zqb y;omega⟩) (a.toNat+1) (a,2000) ⟨h1,by show(2000:Int)<=2000;omega,by simp[ybD]⟩ (by show a.toNat<a.toNat+1;omega)
 obtain⟨r,e1,s,rfl,q1,q2,q3,q4⟩:=L1;have hle:=y0u (y:=s.2) (by omega);have hnn:=yws q2;have hyd:=yvj s.2
 have L2 := y8k (body := ycy a s) (I := fun t => 0 <= t.1 /\ 1 <= t.2 /\ t.2 <= 12 /\ t.1 < y4u s.2 t.2 /\ (mbD (y1c s.2) t.2.toNat : Int) + t.1 = s.1)
  (Q:=fun r=>∃ t:Int×Int,r=.inr t/\0<=t.1/\1<=t.2/\t.2<=12/\t.1<zdb s.2 t.2/\(mbD (y1c s.2) t.2.toNat:Int)+t.1=s.1) (M:=fun t=>t.1.toNat) (by
   rintro⟨d,m⟩ ⟨i1,i2,i3,i4,i5⟩
   simp only[ycy]at i1 i2 i3 i4 i5 ⊢;by_cases hc:zdb s.2 m<=d
   ·have hs:=ycj s.2 m d i2 i3 i4 hc
    have hm:=yrk q2 hle i2 i3;have hn:=y2z (l:=y1c s.2) i2 hs.1;simp only[hc,decide_true,cond_true];rw[ydd (by omega) (by omega),ydd (by omega) (by omega)];refine⟨⟨by omega,by omega,by omega,hs.2.1,by omega⟩,by omega⟩
   ·simp only[hc,decide_false,cond_false]
    exact⟨_,rfl,i1,i2,i3,by show d<zdb s.2 m;omega,i5⟩) (s.1.toNat+1) (s.1,1) ⟨q1,by show(1:Int)<=1;omega,by show(1:Int)<=12;omega,by rw[ylr];exact q4,by show(mbD (y1c s.2) 1:Int)+s.1=s.1;rw[ymx];simp⟩ (by show s.1.toNat<s.1.toNat+1;omega)
 obtain⟨r2,e2,t,rfl,p1,p2,p3,p4,p5⟩:=L2;have hm:=yrk q2 hle p2 p3
 have hw:IntKind.wrap .i64 (t.1+1)=t.1+1:=by
  have:=(ygcb (l:=y1c s.2) p2 p3)
  refine ydd (by omega) ?_;cases hl:y1c s.2<;>simp only[hl,cond_true,cond_false]at * <;> omega
 refine⟨s.2,t.2,t.1+1,?_,hle,q2,p2,p3,by omega,by omega,by omega⟩;unfold zw;rw[e1];simp only;rw[e2];simp only[hw]
theorem yr8 (a:Int) (h1:0<=a) (h2:a<=99999):2000<=(zw a).1/\(zw a).1<=2273/\1<=(zw a).2.1/\(zw a).2.1<=12/\1<=(zw a).2.2/\(zw a).2.2<=31:=by
 obtain⟨y,m,d,e,hy,h⟩:=ykcb a h1 h2;have hm:=yqx (l:=y1c y) h.2.1 h.2.2.1;rw[e];exact⟨h.1,hy,h.2.1,h.2.2.1,h.2.2.2.1,by show d<=31;have:=h.2.2.2.2.1;omega⟩
def zne (a0:Int) (a1:Int):(List UInt8):=
 (zpf [48] (if 0<IntKind.wrap .i64 (a1-((zh a0).length:Int))then IntKind.wrap .i64 (a1-((zh a0).length:Int))else 0))++(zh a0)
namespace N76
theorem DD:DOk Tryz.prog (Go.Ab.DD [(146,dP D_zpf),(30,dP D_zh)]):=ya yw7.e <| ya yvf.e <| yf _
abbrev dn:=cj @D_zpf.eq_1 <| @D_zh.eq_1
abbrev ol:=@yxu
theorem gr {p:Prop} (h:p:=by(grind [yxu,yrc]);first|done|fail):p:=h
theorem den (a0:Int) (a1:Int) (hp0 : -1000000000000<=a0) (hp1:a0<=1000000000000) (hp2:0<=a1) (hp3:a1<=4):Den Tryz.prog 76 [.int .i64 a0,.int .i64 a1] (.str (zne a0 a1)):=by
 generalize hR:zne a0 a1=r;unfold zne at hR;refine di Tryz.func76 Tryz.ntmps76 Tryz.results76 ?_;intro c hL hc hk;clear hL;simp only[pars,Nat.zero_add];have hl0:=yrc a0;iterate 3 refine rS ?_
 refine AWP.ret ?_;subst hR;exact es
end N76
def D_zne : DF
 | [x0,x1]=>some (.str (zne (rdI x0) (rdI x1)),false,[wI .i64 x0,wI .i64 x1,-1000000000000<=(rdI x0),(rdI x0)<=1000000000000,0<=(rdI x1),(rdI x1)<=4])
 | _=>none
theorem ya5:OkD Tryz.prog 76 D_zne:=by unfold D_zne;exact dk N76.den
theorem ybq (a:Int) (h1:0<=a) (h2:a<=1000):(zne a 2).length<=2000:=by
 have hl:=yrc a;unfold zne;rw[List.length_append,yxu,IntKind.wrap_i64];simp only[List.length_cons,List.length_nil,Nat.zero_add,Nat.one_mul];split<;>omega
def zrb (a0:Int):Bool:=
 (ze a0 0 99999)
namespace N42
theorem DD:DOk Tryz.prog (Go.Ab.DD [(63,dP D_ze)]):=ya yfc.e <| yf _
abbrev dn:=@D_ze.eq_1
abbrev ol:=@ze.eq_1
theorem den (a0:Int)  : Den Tryz.prog 42 [.int .i64 a0] (.bool (zrb a0)):=by
 generalize hR:zrb a0=r;unfold zrb at hR;refine di Tryz.func42 Tryz.ntmps42 Tryz.results42 ?_;intro c hL hc hk;clear hL;simp only[pars,Nat.zero_add];iterate 2 refine rS ?_
 refine AWP.ret ?_;subst hR;exact es
end N42
def D_zrb : DF
 | [x0]=>some (.bool (zrb (rdI x0)),false,[wI .i64 x0])
 | _=>none
theorem yth:OkD Tryz.prog 42 D_zrb:=by unfold D_zrb;exact dk N42.den
def zhb (a0:Int):(List UInt8):=
 (bif (!(zrb a0))then[]else((((zh ((zw a0).1))++[45])++(zne ((zw a0).2.1) 2))++[45])++(zne ((zw a0).2.2) 2))
namespace N33
theorem DD:DOk Tryz.prog (Go.Ab.DD [(30,dP D_zh),(42,dP D_zrb),(75,dP D_zw),(76,dP D_zne)]):=ya yvf.e <| ya yth.e <| ya y78.e <| ya ya5.e <| yf _
abbrev dn:=cj @D_zh.eq_1 <| cj @D_zrb.eq_1 <| cj @D_zw.eq_1 <| @D_zne.eq_1
theorem gr {p:Prop} (h:p:=by(grind [yrc]);first|done|fail):p:=h
theorem o0 {p:Prop} (h:p:=by(first|(have hb9:0<=a0/\a0<=99999:=(by have hb8:=hb;simp[zrb,ze]at hb8;omega);have hr:=yr8 a0 hb9.1 hb9.2;have l1:=yrc (zw a0).1;have l2:=ybq (zw a0).2.1 (by omega) (by omega);have l3:=ybq (zw a0).2.2 (by omega) (by omega);(try simp only[List.length_append,List.length_cons,List.length_nil]);omega));first|done|fail):p:=h
theorem den (a0:Int)  : Den Tryz.prog 33 [.int .i64 a0] (.str (zhb a0)):=by
 generalize hR:zhb a0=r;unfold zhb at hR;refine di Tryz.func33 Tryz.ntmps33 Tryz.results33 ?_;intro c hL hc hk;clear hL;simp only[pars,Nat.zero_add];iterate 2 refine rS ?_
 refine AWP.cond rfl (fun hb => ?_) (fun hb => ?_)
 ·replace hR:=ct hR
  refine rS ?_;refine AWP.ret ?_;subst hR;exact es
 ·replace hR:=cf hR
  iterate 2 refine rS ?_
  refine AWP.ret ?_;subst hR;exact es
end N33
def D_zhb : DF
 | [x0]=>some (.str (zhb (rdI x0)),false,[wI .i64 x0])
 | _=>none
theorem yqw:OkD Tryz.prog 33 D_zhb:=by unfold D_zhb;exact dk N33.den
end Go.Ab
